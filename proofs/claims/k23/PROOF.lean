import PyProof.Rows.All
import Wide.All
import OpenK.AllK
import Wide.FinOn
import HandS.ForMost
import HandS.Exc
import HandS.Style
import HandS.Flow
import HandS.Deep
import HandS.TupMul
import HandS.DictTup
import HandS.DictEq
import HandS.Small
import HandS.IsInst
import KE.KDictDisplayH
import HandS.Dict
import HandS.Iter
import HandS.List
import HandS.SortRule
import KE.KDictWalk
import KE.KDictKeyed
import HandS.Zip
import HandS.Rev
import HandS.RevTup
import HandS.WideBits
import HandS.Conv
import KE.GoesEnum
import KE.GoesMore
import HandS.TupAny
import HandS.Codes
import HandS.CallSlots
import HandS.ExcOwn
import HandS.ExcIs
import HandS.More
import HandS.FStr
import HandS.Text
import HandS.CallRecv
import HandS.Flt
import HandS.TryOnly
import HandS.Words
import HandS.WordsExc
import HandS.Ends
import PySem.Challenge.RW_ramet_k23_layouts
set_option Elab.async false
set_option linter.all false
set_option maxRecDepth 100000
set_option maxHeartbeats 2000000
/-! Dicts whose keys are tuples of ints, tracked or constant: a thing of our own in the abstract heap. -/
namespace Ng
open PySem PySem.Spec PyProof.Rows PySem.W
section
variable {prog : Program} {w : World} {K : Type} [DecidableEq K] {knd : HeapKind prog w K} {A : Around} {E : Value → Shared → Prop} {s : Shared}
inductive HitsH {K : Type} [DecidableEq K] (prog : Program) (w : World) (A : Around) (s : Shared) (xb : List (K × Addr × Value)) : List (K × Addr × Value) → Bool → Prop
  | nil : HitsH prog w A s xb [] true
  | miss {k : K} {p : Addr × Value} {r : List (K × Addr × Value)} : atKey xb k = none → HitsH prog w A s xb ((k, p) :: r) false
  | hit {k : K} {p q : Addr × Value} {r : List (K × Addr × Value)} {e b : Bool} : atKey xb k = some q → SeqAt.EqP prog w A s p.2 q.2 e → HitsH prog w A s xb r b → HitsH prog w A s xb ((k, p) :: r) (e && b)
theorem HitsH.inv {xb : List (K × Addr × Value)} {k : K} {p : Addr × Value} {r : List (K × Addr × Value)} {b : Bool} (h : HitsH prog w A s xb ((k, p) :: r) b) :
    (atKey xb k = none ∧ b = false) ∨ ∃ q e b', atKey xb k = some q ∧ SeqAt.EqP prog w A s p.2 q.2 e ∧ HitsH prog w A s xb r b' ∧ b = (e && b') := by
  cases h with
  | miss hn => exact .inl ⟨hn, rfl⟩
  | hit hy he hr => exact .inr ⟨_, _, _, hy, he, hr, rfl⟩
theorem samePairsH {nm : String} {a b : Addr} {xa xb : List (K × Addr × Value)} {r : Bool} {Q : Bool → Shared → Prop} (ha : (a == sysModules) = false) (hb : (b == sysModules) = false) (hu : knd.room A)
    (da : s.heap.DictOfH knd a xa) (db : s.heap.DictOfH knd b xb) (hits : xa.length = xb.length → HitsH prog w A s xb xa r) (h : Q (xa.length == xb.length && r) s) :
    wpAny (model prog w) A (Builtin.Dict.samePairs nm a b) Q E s := by
  obtain ⟨oa, es, ep, hoa, _, hda, hea, hia, hna⟩ := da
  obtain ⟨ob, es', ep', hob, _, hdb, heb, hib, hnb⟩ := db
  have hla : xa.length = es.size := (size_of_entries hea).symm
  have hlb : xb.length = es'.size := (size_of_entries heb).symm
  rw [hla, hlb] at h
  unfold Builtin.Dict.samePairs Builtin.Dict.showsAll
  rw [if_neg (show ¬ (a == sysModules) = true by rw [ha]; exact Bool.false_ne_true), if_neg (show ¬ (b == sysModules) = true by rw [hb]; exact Bool.false_ne_true)]
  refine wpAny_bind (wpAny_pure (wpAny_bind (wpAny_pure ?_)))
  refine wpAny_bind (wpAny_dictEntries hoa hda ?_)
  dsimp only
  refine wpAny_bind (wpAny_dictEntries hob hdb ?_)
  by_cases hsz : es.size = es'.size
  case neg =>
    rw [if_pos (by simpa using hsz)]
    have hbf : (es.size == es'.size) = false := by simpa using hsz
    rw [hbf, Bool.false_and] at h
    exact wpAny_bind (wpAny_rule (wpAny_pure h))
  case pos =>
    have h' : Q r s := by simpa [hsz] using h
    have hits' := hits (by rw [hla, hlb]; exact hsz)
    rw [if_neg (by rw [hsz]; simp)]
    refine wpAny_bind (wpAny_dictEpoch hoa hda ?_)
    refine wpAny_bind ?_
    rw [Std.Legacy.Range.forIn_eq_forIn_range']
    simp only [Std.Legacy.Range.size, Nat.sub_zero, Nat.add_sub_cancel, Nat.div_one]
    refine wpAny_forIn_list _
      (fun rest q s' => s' = s ∧ q = (none, ()) ∧ ∃ i, rest = List.range' i (es.size - i) ∧ i ≤ es.size ∧ HitsH prog w A s xb (xa.drop i) r)
      _ ?_ ?_ _ _ ⟨rfl, rfl, 0, by simp, Nat.zero_le _, hits'⟩
    · rintro x rest q s' ⟨rfl, rfl, i, hr, hi, hpre⟩
      have hlt : i < es.size := by
        rcases Nat.lt_or_ge i es.size with h | h
        · exact h
        · rw [Nat.sub_eq_zero_of_le h] at hr; simp at hr
      obtain ⟨rfl, hrest⟩ : x = i ∧ rest = List.range' (i + 1) (es.size - (i + 1)) := by
        have e : es.size - i = (es.size - (i + 1)) + 1 := by omega
        rw [e, List.range'_succ] at hr
        injection hr with h1 h2
        exact ⟨h1, h2⟩
      refine wpAny_bind (wpAny_dictEntries hoa hda ?_)
      have hlt' : x < xa.length := by rw [hla]; exact hlt
      obtain ⟨k, p, hkv⟩ : ∃ k p, xa[x] = (k, p) := ⟨_, _, rfl⟩
      have hdrop : xa.drop x = (k, p) :: xa.drop (x + 1) := by rw [← hkv]; exact List.drop_eq_getElem_cons hlt'
      have hx? : xa[x]? = some (k, p) := by rw [List.getElem?_eq_getElem hlt', hkv]
      have hex : es[x]? = some (entryOfKey knd (k, p)) := by rw [entry_at hea x, hx?]; rfl
      have hkey : knd.is s'.heap k p.1 := hia (k, p) (List.mem_of_getElem? hx?)
      rw [hex]
      rw [hdrop] at hpre
      refine wpAny_bind (wpAny_holding (wpAny_bind (wpAny_dictFind_heap hu hkey hob hdb heb hib hnb ?_ ?_)))
      · intro hno
        have hn : atKey xb k = none := atKey_none_of_get hno
        rcases hpre.inv with ⟨_, er⟩ | ⟨y, _, _, hy, _⟩
        · rw [er] at h'
          refine wpAny_pure ?_
          show wpAny _ _ (if (!false) = true then _ else _) _ _ _
          rw [if_pos (by decide)]
          exact wpAny_pure (wpAny_pure h')
        · rw [hn] at hy; exact nomatch hy
      · intro j q hj
        have hv' : atKey xb k = some q := atKey_of_get hnb hj
        refine wpAny_bind (wpAny_dictEntries hob hdb ?_)
        rw [entry_at heb j, hj]
        rcases hpre.inv with ⟨hn, _⟩ | ⟨y, e, b', hy, he, hrr, er⟩
        · rw [hv'] at hn; exact nomatch hn
        · have ey : q = y := Option.some.inj (hv'.symm.trans hy)
          rw [← ey] at he
          refine wpAny_holding (he _ _ ?_)
          cases e with
          | false =>
            rw [er, Bool.false_and] at h'
            show wpAny _ _ (if (!false) = true then _ else _) _ _ _
            rw [if_pos (by decide)]
            exact wpAny_pure (wpAny_pure h')
          | true =>
            rw [Bool.true_and] at er
            rw [← er] at hrr
            show wpAny _ _ (if (!true) = true then _ else _) _ _ _
            rw [if_neg (by decide)]
            refine wpAny_bind (wpAny_dictEpoch hoa hda ?_)
            rw [if_neg (by simp)]
            exact wpAny_pure ⟨rfl, rfl, x + 1, hrest, hlt, hrr⟩
    · rintro q s' ⟨rfl, rfl, i, hr, hi, hpre⟩
      have hin : i = es.size := by
        rcases Nat.lt_or_ge i es.size with h | h
        · have e : es.size - i = (es.size - (i + 1)) + 1 := by omega
          rw [e, List.range'_succ] at hr; exact nomatch hr
        · exact Nat.le_antisymm hi h
      refine wpAny_pure ?_
      rw [hin, ← hla, List.drop_length] at hpre
      cases hpre
      exact h'
theorem eqH {a b : Addr} {xa xb : List (K × Addr × Value)} {r : Bool} {Q : Value → Shared → Prop} (ha : (a == sysModules) = false) (hb : (b == sysModules) = false) (hr : knd.room A.in1)
    (da : s.heap.DictOfH knd a xa) (db : s.heap.DictOfH knd b xb) (hu : A.units < cLine) (hits : xa.length = xb.length → HitsH prog w A.in1 s xb xa r) (h : Q (.bool (xa.length == xb.length && r)) s) :
    wpAny (model prog w) A (compareOp .Eq (.ref a) (.ref b)) Q E s := by
  refine wpAny_richCompare_same_room (op := .Eq) da.typeIs db.typeIs PySem.F.slot_dict_eq (wpAny_call_entry PySem.F.slot_dict_eq da.typeIs PySem.F.entry_dict_eq ?_ (PySem.F.args_dict_eq_2 _ _)) hu
  show wpAny _ _ (Builtin.Dict.dictSlotArgs "__eq__" ⟨[.ref a, .ref b], []⟩ >>= _) _ _ s
  refine wpAny_bind ?_
  unfold Builtin.Dict.dictSlotArgs
  refine wpAny_bind (wpAny_notOrdered_dict da.typeIs ?_)
  show wpAny _ _ (pure (Value.ref a, Value.ref b)) _ _ s
  refine wpAny_pure ?_
  refine wpAny_bind (wpAny_isInstance (T := "dict") db.typeIs PySem.F.sub_dict_dict ?_)
  simp only [Bool.not_true, Bool.false_eq_true, if_false]
  refine wpAny_bind (wpAny_pure (wpAny_bind (wpAny_pure ?_)))
  refine wpAny_bind (samePairsH ha hb hr da db hits ?_)
  refine wpAny_pure ⟨_, rfl, ?_, ?_⟩
  · exact fun x => nomatch x
  · simpa using h
theorem neH {a b : Addr} {xa xb : List (K × Addr × Value)} {r : Bool} {Q : Value → Shared → Prop} (ha : (a == sysModules) = false) (hb : (b == sysModules) = false) (hr : knd.room A.in1)
    (da : s.heap.DictOfH knd a xa) (db : s.heap.DictOfH knd b xb) (hu : A.units < cLine) (hits : xa.length = xb.length → HitsH prog w A.in1 s xb xa r) (h : Q (.bool (!(xa.length == xb.length && r))) s) :
    wpAny (model prog w) A (compareOp .NotEq (.ref a) (.ref b)) Q E s := by
  refine wpAny_richCompare_same_room (op := .NotEq) da.typeIs db.typeIs PySem.F.slot_dict_ne (wpAny_call_entry PySem.F.slot_dict_ne da.typeIs PySem.F.entry_dict_ne ?_ (PySem.F.args_dict_ne_2 _ _)) hu
  show wpAny _ _ (Builtin.Dict.dictSlotArgs "__ne__" ⟨[.ref a, .ref b], []⟩ >>= _) _ _ s
  refine wpAny_bind ?_
  unfold Builtin.Dict.dictSlotArgs
  refine wpAny_bind (wpAny_notOrdered_dict da.typeIs ?_)
  show wpAny _ _ (pure (Value.ref a, Value.ref b)) _ _ s
  refine wpAny_pure ?_
  refine wpAny_bind (wpAny_isInstance (T := "dict") db.typeIs PySem.F.sub_dict_dict ?_)
  simp only [Bool.not_true, Bool.false_eq_true, if_false]
  refine wpAny_bind (wpAny_pure (wpAny_bind (wpAny_pure ?_)))
  refine wpAny_bind (samePairsH ha hb hr da db hits ?_)
  refine wpAny_pure ⟨_, rfl, ?_, ?_⟩
  · exact fun x => nomatch x
  · simpa using h
end

end Ng
namespace Ng
open PySem L2
/-! ### the thing in the abstract heap -/
def hashI (k : List Int) : Int := reduceHash (Builtin.Tuple.tupleHashOf (k.map hashInt))
def entI (x : List Int × Addr × Value) : DictEntry := ⟨hashI x.1, .ref x.2.1, x.2.2⟩
abbrev tk (P : Program) (w : World) : HeapKind P w (List Int) := tupleKind (intKind P w)
theorem ent_eq (P : Program) (w : World) : entryOfKey (tk P w) = entI := rfl
def DX (a : Addr) (xs : List (List Int × Addr × Value)) : HO := .ext fun h => xs.length ≤ sizeLine ∧ (a == sysModules) = false ∧ (xs.map (·.1)).Nodup ∧ ∃ o es ep, h.get? a = some o ∧ o.ExactDict ∧ o.data = .dict es ep ∧ es.toList = xs.map entI
/-- its keys stand where the entries say -/
def KX (K : PySem.W.Frag) (H : Hp) (xs : List (List Int × Addr × Value)) : Prop := ∀ x ∈ xs, SqT K H x.2.1 (x.1.map V.int)
section
variable {P : Program} {w : World} {H : Hp} {h : Heap} {a b : Addr} {xs : List (List Int × Addr × Value)}
theorem dx_new (h1 : xs.length ≤ sizeLine) (h2 : (a == sysModules) = false) (dd : h.DictOfH (tk P w) a xs) : ObjOk P w H h a (DX a xs) := by
  obtain ⟨o, es, ep, e1, e2, e3, e4, e5, e6⟩ := dd
  refine ⟨⟨h1, h2, e6, o, es, ep, e1, e2, e3, e4⟩, ⟨o, e1⟩, ?_⟩
  rintro g1 g2 ⟨z1, z2, z3, o, es, ep, q1, q2⟩ k
  exact ⟨z1, z2, z3, o, es, ep, k o q1, q2⟩
theorem ints_are {P : Program} {w : World} : ∀ {ks : List Int} {us : List Value}, Vals (ks.map V.int) us → ItemsAre (intKind P w) ks us
  | [], _, r => by rw [List.map_nil] at r; cases r; exact .nil
  | k :: ks, _, r => by
    rw [List.map_cons] at r
    cases r with
    | cons h t =>
      obtain ⟨t', e⟩ := (show ∃ t, _ = Value.int k t from h)
      subst e
      exact .cons (by simp [intKind, Value.isInt]) (ints_are t)
end
section
variable {X : Cx} {pins : List (Addr × Obj)} {σ : St} {H : Hp} {s : Shared} {a b : Addr} {xs : List (List Int × Addr × Value)} {k : List Int} {A : Around} {E : Value → Shared → Prop}
theorem key_is (I : Inv X pins σ H s) (h : SqT X.K H b (k.map V.int)) : (tk X.prog X.w).is s.heap k b := by
  obtain ⟨its, r, ⟨o, h1, h2, n, h3⟩, _⟩ := I.tuple h
  exact ⟨o, its.toArray, n, h1, h2, h3, by simpa using ints_are r⟩
theorem dx_rd (I : Inv X pins σ H s) (e : H a = some (DX a xs)) (kx : KX X.K H xs) : xs.length ≤ sizeLine ∧ (a == sysModules) = false ∧ s.heap.DictOfH (tk X.prog X.w) a xs := by
  obtain ⟨⟨z1, z2, z3, o, es, ep, q1, q2, q3, q4⟩, _⟩ := (show ObjOk X.prog X.w H s.heap a (DX a xs) from I.hok a _ e)
  exact ⟨z1, z2, o, es, ep, q1, q2, q3, q4, fun x hx => key_is I (kx x hx), z3⟩
/-- d[k] -/
def rIxX (K : PySem.W.Frag) : R2 := fun x y H Q => ∃ a b xs k p v, x = .ref a ∧ y = .ref b ∧ H a = some (DX a xs) ∧ KX K H xs ∧ SqT K H b (k.map V.int) ∧ atKey xs k = some p ∧ RelV v p.2 ∧ Q v H
theorem ix_dx (hu : X.A.units + 1 < cLine) : IxR X (rIxX X.K) := by
  intro value slice pins s σ H x y v u Q I rx ry h hs
  obtain ⟨a, b, xs, k, p, r, rfl, rfl, e, kx, hk, hp, rv, q⟩ := h
  obtain rfl : v = Value.ref a := rx
  obtain rfl : u = Value.ref b := ry
  obtain ⟨z, hd, dd⟩ := dx_rd I e kx
  exact PyProof.Rows.tail_any dd.typeIs PySem.F.slot_dict_getitem.lookup (wpAny_getItem_heap (tupleKind_room_in1 hu) (key_is I hk) dd hp ⟨r, H, I.tok _, rv, q⟩) hs
/-- k in d, k not in d -/
def rInX (K : PySem.W.Frag) (neg : Bool) : R2 := fun x y H Q => ∃ a b xs k, y = .ref a ∧ x = .ref b ∧ H a = some (DX a xs) ∧ KX K H xs ∧ SqT K H b (k.map V.int) ∧ Q (.bl ((atKey xs k).isSome ^^ neg)) H
theorem in_dx (hu : X.A.units + 1 < cLine) : OpR X (compareOp .In) (rInX X.K false) := by
  intro pins s σ H x y v u Q I rx ry h
  obtain ⟨a, b, xs, k, rfl, rfl, e, kx, hk, q⟩ := h
  obtain rfl : v = Value.ref b := rx
  obtain rfl : u = Value.ref a := ry
  obtain ⟨z, hd, dd⟩ := dx_rd I e kx
  refine wpAny_in_heap (tupleKind_room_in1 hu) (key_is I hk) hd dd ?_
  exact ⟨.bl _, H, I.tok _, by simp [RelV], q⟩
theorem notIn_dx (hu : X.A.units + 1 < cLine) : OpR X (compareOp .NotIn) (rInX X.K true) := by
  intro pins s σ H x y v u Q I rx ry h
  obtain ⟨a, b, xs, k, rfl, rfl, e, kx, hk, q⟩ := h
  obtain rfl : v = Value.ref b := rx
  obtain rfl : u = Value.ref a := ry
  obtain ⟨z, hd, dd⟩ := dx_rd I e kx
  refine PyProof.Rows.wpAny_notIn_heap (tupleKind_room_in1 hu) (key_is I hk) hd dd ?_
  exact ⟨.bl _, H, I.tok _, by simp [RelV], q⟩
/-- d[k] = v -/
def rSetX (K : PySem.W.Frag) : TSet := fun o i v H Q => ∃ a b xs k, o = .ref a ∧ i = .ref b ∧ H a = some (DX a xs) ∧ KX K H xs ∧ SqT K H b (k.map V.int) ∧ xs.length < sizeLine ∧ ∀ u, RelV v u → Q (upd H a (DX a (storedH xs k b u)))
theorem set_dx (hu : X.A.units + 1 < cLine) : PSet X (rSetX X.K) := by
  intro pins s σ H o i v ov iv u Q I ro ri rv h
  obtain ⟨a, b, xs, k, rfl, rfl, e, kx, hk, hl, q⟩ := h
  obtain rfl : ov = Value.ref a := ro
  obtain rfl : iv = Value.ref b := ri
  obtain ⟨z, hd, dd⟩ := dx_rd I e kx
  refine wpAny_setItem_heap (hsz := z) (tupleKind_room_in1 hu) (key_is I hk) dd fun h' dd' hs => ?_
  have hl' : (storedH xs k b u).length ≤ sizeLine := by have := storedH_length xs k b u; omega
  have he : ∃ q, h'.get? a = some q := let ⟨q, _, _, hq, _⟩ := dd'; ⟨q, hq⟩
  exact ⟨_, d_write I (by rw [e]; exact True.intro) hs he (dx_new hl' hd dd'), q u rv⟩
/-- d == e, d != e -/
def rEqX (K : PySem.W.Frag) (neg : Bool) : R2 := fun x y H Q => ∃ (a b : Addr) (xs ys : List (List Int × Addr × Value)) (r : Bool), x = .ref a ∧ y = .ref b ∧ H a = some (DX a xs) ∧ H b = some (DX b ys) ∧ KX K H xs ∧ KX K H ys ∧
  (∀ (X : Cx) (pins : List (Addr × Obj)) (σ : St) (s : Shared), X.K = K → Inv X pins σ H s → X.A.units + 66 < cLine → xs.length = ys.length → HitsH X.prog X.w X.A.in1 s ys xs r) ∧ Q (.bl ((xs.length == ys.length && r) ^^ neg)) H
theorem eq_dx (hu : X.A.units + 66 < cLine) : OpR X (compareOp .Eq) (rEqX X.K false) := by
  intro pins s σ H x y v u Q I rx ry h
  obtain ⟨a, b, xs, ys, r, rfl, rfl, ea, eb, ka, kb, hh, q⟩ := h
  obtain rfl : v = Value.ref a := rx
  obtain rfl : u = Value.ref b := ry
  obtain ⟨_, hda, da⟩ := dx_rd I ea ka
  obtain ⟨_, hdb, db⟩ := dx_rd I eb kb
  exact eqH hda hdb (tupleKind_room_in1 (by omega)) da db (by omega) (hh X pins σ s rfl I hu) ⟨.bl _, H, I, by simp [RelV], q⟩
theorem ne_dx (hu : X.A.units + 66 < cLine) : OpR X (compareOp .NotEq) (rEqX X.K true) := by
  intro pins s σ H x y v u Q I rx ry h
  obtain ⟨a, b, xs, ys, r, rfl, rfl, ea, eb, ka, kb, hh, q⟩ := h
  obtain rfl : v = Value.ref a := rx
  obtain rfl : u = Value.ref b := ry
  obtain ⟨_, hda, da⟩ := dx_rd I ea ka
  obtain ⟨_, hdb, db⟩ := dx_rd I eb kb
  exact neH hda hdb (tupleKind_room_in1 (by omega)) da db (by omega) (hh X pins σ s rfl I hu) ⟨.bl _, H, I, by simp [RelV], q⟩
/-! ### isinstance -/
inductive TyY (K : PySem.W.Frag) (H : Hp) : V → Value → Prop where
  | x {v : V} {t : Value} (h : TyX K H v t) : TyY K H v t
  | dx {a : Addr} {xs : List (List Int × Addr × Value)} (e : H a = some (DX a xs)) : TyY K H (.ref a) (.type "dict")
theorem kit_ofY {x : V} {u t : Value} (I : Inv X pins σ H s) (rx : RelV x u) (ty : TyY X.K H x t) : ∃ P : Heap → Prop, PySem.W.KitX X.K u t P ∧ P s.heap ∧ u ≠ .builtin "__main__.__loader__#opaque" := by
  cases ty with
  | x h => exact kit_of I rx h
  | @dx a xs ea =>
    cases (show u = Value.ref a from rx)
    obtain ⟨⟨_, _, _, o, es, ep, h1, h2, _⟩, _⟩ := (show ObjOk X.prog X.w H s.heap a (DX a xs) from I.hok a _ ea)
    exact ⟨_, PySem.W.kitx_dict, ⟨o, h1, h2.1⟩, fun z => nomatch z⟩
def rIsiY (K : PySem.W.Frag) : List V → Hp → VK → Prop := fun xs H Q => ∃ (x c : V) (t u : Value) (b : Bool), xs = [x, c] ∧ ClsV c u ∧ TyY K H x t ∧ PySem.W.kitOne K t u = some b ∧ Q (.bl b) H
def rIsiTY (K : PySem.W.Frag) : List V → Hp → VK → Prop := fun xs H Q => ∃ (x : V) (tp : Addr) (cs : List V) (t : Value) (us : List Value) (b : Bool), xs = [x, .ref tp] ∧ H tp = some (.tup cs) ∧ Paired ClsV cs us ∧ TyY K H x t ∧ PySem.W.kitAny K t us = some b ∧ Q (.bl b) H
theorem call_isiY : CallR X (.builtin "isinstance") (rIsiY X.K) := by
  intro pins s σ H xs us Q I r h
  obtain ⟨x, c, t, u, b, rfl, k, ty, e, q⟩ := h
  obtain ⟨u1, u2, rfl, r1, r2⟩ := vals2 r
  have e2 := k.eq r2
  subst e2
  obtain ⟨P, Z, p, hx⟩ := kit_ofY I r1 ty
  exact PySem.W.kia_one Z I.kIn p e hx fun tk => ⟨.bl b, H, I.tok tk, rfl, q⟩
theorem call_isiTY : CallR X (.builtin "isinstance") (rIsiTY X.K) := by
  intro pins s σ H xs us Q I r h
  obtain ⟨x, tp, cs, t, ws, b, rfl, hT, k, ty, e, q⟩ := h
  obtain ⟨u1, u2, rfl, r1, r2⟩ := vals2 r
  cases (show u2 = Value.ref tp from r2)
  obtain ⟨P, Z, p, hx⟩ := kit_ofY I r1 ty
  obtain ⟨_, its, rv, o, h1, h2, n, h3⟩ := (show ObjOk X.prog X.w H s.heap tp (.tup cs) from I.hok tp _ hT)
  have e3 := ClsV.all k rv
  subst e3
  obtain ⟨oc, od, dt, sl⟩ := o
  simp only at h2 h3
  subst h2 h3
  exact PySem.W.kia_tup Z I.kIn p h1 e hx fun tk => ⟨.bl b, H, I.tok tk, rfl, q⟩
/-! ### displays -/
/-- {} -/
def tDNewX : TE := fun _ H Q => ∀ p, H p = none → Q (.ref p) (upd H p (DX p []))
theorem dx_empty {P : Program} {w : World} {H : Hp} (h : Heap) (hb : sysModules < h.objs.size) : ObjOk P w H (h.push { cls := .type "dict", data := .dict #[] }) h.objs.size (DX h.objs.size []) :=
  dx_new (Nat.zero_le _) (beq_eq_false_iff_ne.mpr (Ne.symm (Nat.ne_of_lt hb))) (Heap.DictOfH.new h)
theorem pe_dnewX {pos : Pos} : PE X (.Dict [] [] pos) tDNewX := ⟨fun pins s σ H Q I h =>
  wpAny_Dict_empty ⟨.ref s.heap.objs.size, _, I.laid (a := s.heap.objs.size) (o := DX s.heap.objs.size []) (t' := s.toks) (fun _ _ q => Heap.get?_push_of_some _ q) (Nat.le_refl _) (dx_empty s.heap I.big), rfl, h _ (I.hok.fresh (Nat.le_refl _))⟩⟩
/-- the pairs that are stored -/
abbrev KVs (kvs : List (List Int × Addr × V)) (rs : List (List Int × Addr × Value)) : Prop := Paired (fun (q : List Int × Addr × V) (r : List Int × Addr × Value) => q.1 = r.1 ∧ q.2.1 = r.2.1 ∧ RelV q.2.2 r.2.2) kvs rs
theorem carries_X (I : Inv X pins σ H s) : ∀ {kvs : List (List Int × Addr × V)} {ws : List (Value × Value)}, (∀ q ∈ kvs, SqT X.K H q.2.1 (q.1.map V.int)) → VV (kvs.map fun q => (V.ref q.2.1, q.2.2)) ws →
    ∃ rs, PySem.CarriesH (tk X.prog X.w) s.heap ws rs ∧ KVs kvs rs
  | [], _, _, r => by rw [List.map_nil] at r; cases r; exact ⟨[], True.intro, .nil⟩
  | p :: kvs, _, hk, r => by
    rw [List.map_cons] at r
    cases r with
    | @cons a b as bs h t =>
      obtain ⟨rs, c, q⟩ := carries_X I (fun q hq => hk q (List.mem_cons_of_mem _ hq)) t
      obtain ⟨b1, b2⟩ := b
      obtain ⟨h1, h2⟩ := h
      obtain rfl : b1 = Value.ref p.2.1 := h1
      exact ⟨(p.1, p.2.1, b2) :: rs, ⟨rfl, rfl, key_is I (hk p List.mem_cons_self), c⟩, .cons ⟨rfl, rfl, h2⟩ q⟩
def tDispX (K : PySem.W.Frag) (trs : List (TE × TE)) : TE := fun σ H Q => ∀ p, H p = none → tPairs trs σ (upd H p (DX p [])) fun ps H2 => ∃ kvs : List (List Int × Addr × V), ps = kvs.map (fun q => (V.ref q.2.1, q.2.2)) ∧ H2 p = some (DX p []) ∧
  (∀ q ∈ kvs, SqT K H2 q.2.1 (q.1.map V.int)) ∧ kvs.length ≤ 15 ∧ ∀ rs, KVs kvs rs → Q (.ref p) (upd H2 p (DX p (storedAllH [] rs)))
theorem pe_dispX {pos : Pos} {keys : List (Option Expr)} {values : List Expr} {trs : List (TE × TE)} (hu : X.A.units < cLine) (h : PPs X pos keys values trs) (hall : keys.all (·.isSome) = true) (hl : keys.length = values.length) (h0 : keys ≠ [])
    (h15 : keys.length ≤ 15) : PE X (.Dict keys values pos) (tDispX X.K trs) := by
  refine ⟨fun pins s σ H Q I q => ?_⟩
  have hn := I.hok.fresh (Nat.le_refl s.heap.objs.size)
  have I1 := I.laid (a := s.heap.objs.size) (o := DX s.heap.objs.size []) (h' := s.heap.push { cls := .type "dict", data := .dict #[] }) (t' := s.toks) (fun _ _ q => Heap.get?_push_of_some _ q) (Nat.le_refl _) (dx_empty s.heap I.big)
  have hpn := pairTrees_length keys values X.env pos hall hl
  have hp0 : pairTrees keys values X.env pos ≠ [] := fun e => h0 (List.length_eq_zero_iff.mp (by rw [← hpn, e]; rfl))
  rw [arm_eval_Dict, zip_pairTrees keys values X.env pos hall hl, dictDisplay_pairs _ hp0 (by omega)]
  refine wpAny_bind (wpAny_standAt (wpAny_bind (PySem.wpAny_subDictH (knd := tk X.prog X.w) (Q := fun d s' => wpAny (model X.prog X.w) X.A (pure (Value.ref d)) (EP X pins σ Q) X.xe s') hu (by omega)
    (thn (h.run pins _ σ _ _ I1 (q _ hn)) fun ws s2 ⟨ps, H2, I2, rel, kvs, ep, e, hk, lk, q2⟩ => ?_))))
  subst ep
  obtain ⟨rs, c, rk⟩ := carries_X I2 hk rel
  obtain ⟨z, hd, dd⟩ := dx_rd I2 e (fun x hx => by cases hx)
  refine ⟨rs, c, dd, fun h' tk' dd' hs => wpAny_pure ⟨.ref s.heap.objs.size, _, ?_, rfl, q2 rs rk⟩⟩
  have hz : (storedAllH [] rs).length ≤ sizeLine := by
    have h1 := storedAllH_length rs []
    have h2 := Paired.length rk
    rw [List.length_nil] at h1
    rw [sizeLine_eq]; omega
  have he : ∃ q, h'.get? s.heap.objs.size = some q := let ⟨q, _, _, hq, _⟩ := dd'; ⟨q, hq⟩
  exact d_write I2 (by rw [e]; exact True.intro) hs he (dx_new hz hd dd')
/-! ### methods of such a dict -/
def tBMX (r : V → List V → Hp → VK → Prop) (to : TE) (t : TA) : TE := fun σ H Q => to σ H fun x H1 => (∃ (a : Addr) (xs : List (List Int × Addr × Value)), x = .ref a ∧ H1 a = some (DX a xs)) ∧ t σ H1 fun vs H2 => r x vs H2 Q
theorem dx_is {x : V} {v : Value} (I : Inv X pins σ H s) (r : RelV x v) (ty : ∃ (a : Addr) (xs : List (List Int × Addr × Value)), x = .ref a ∧ H a = some (DX a xs)) :
    s.TypeIs v "dict" ∧ ∀ a, v = .ref a → ∃ ob, s.heap.get? a = some ob ∧ ob.dict = none := by
  obtain ⟨a, xs, rfl, e⟩ := ty
  cases (show v = Value.ref a from r)
  obtain ⟨⟨_, _, _, o, es, ep, h1, h2, _⟩, _⟩ := (show ObjOk X.prog X.w H s.heap a (DX a xs) from I.hok a _ e)
  exact ⟨⟨o, h1, h2.1⟩, fun b q => by cases q; exact ⟨o, h1, h2.2.1⟩⟩
theorem pe_bmX {o e : Expr} {es : List Expr} {to : TE} {t : TA} {name : Str} {apos cpos : Pos} {id : String} {r : V → List V → Hp → VK → Prop} (slot : Slot "dict" name id) (hty : typeOf (.builtin id) = pure (.type "method_descriptor")) (hm : MtR X id r) (ho : PE X o to) (ha : PA X (e :: es) t)
    (hbase : attributeBase o name X.env (eval o X.env) = eval o X.env)
    (hfew : ((backTo cpos (starEach (e :: es) X.env)).all (fun x => !x.1) && (backToKw cpos (keywordEach [] X.env)).all (fun x => x.1.isSome)
      && decide ((e :: es).length + ([] : List Keyword).length + (if ([] : List Keyword).isEmpty then 0 else 1) < 30)) = true)
    (hline : (apos.endLine == cpos.line) = true) (hs : starEach (e :: es) X.env = (false, eval e X.env) :: starEach es X.env) (hplain : (backTo cpos (starEach es X.env)).any (·.1) = false) :
    PE X (.Call (.Attribute o name apos) (e :: es) [] cpos) (tBMX r to t) := by
  refine ⟨fun pins s σ H Q I h => ?_⟩
  refine wpAny_Call_method_late hbase hfew hline rfl (thn (ho.run pins s σ H _ I h) fun v s1 ⟨x, H1, I1, r1, ty, q1⟩ => ?_)
  obtain ⟨h1, h2⟩ := dx_is I1 r1 ty
  refine ⟨"dict", id, PySem.F.plainAttrs_dict, slot, hty, h1, h2, ?_⟩
  have hA := ha.run cpos pins s1 σ H1 _ I1 q1
  rw [hs] at hA ⊢
  refine Calls.callWith_builtin (by show (false || (backTo cpos (starEach es X.env)).any (·.1)) = false; rw [hplain] <;> rfl) (Calls.evalArgs_plain ?_)
  exact thn hA fun us s2 ⟨vs, H2, I2, r2, q2⟩ => hm pins s2 σ H2 x vs v us Q I2 r1 r2 q2
def gotX (xs : List (List Int × Addr × Value)) (k : List Int) (d : V) (q : V → Prop) : Prop := (atKey xs k = none ∧ q d) ∨ ∃ p v, atKey xs k = some p ∧ RelV v p.2 ∧ q v
def rGetX (K : PySem.W.Frag) : V → List V → Hp → VK → Prop := fun x vs H Q => ∃ (a b : Addr) (xs : List (List Int × Addr × Value)) (k : List Int), x = .ref a ∧ H a = some (DX a xs) ∧ KX K H xs ∧ SqT K H b (k.map V.int) ∧
  ((vs = [.ref b] ∧ gotX xs k .non fun v => Q v H) ∨ ∃ d, vs = [.ref b, d] ∧ gotX xs k d fun v => Q v H)
theorem mt_getX (hu : X.A.units + 1 < cLine) : MtR X "dict.get" (rGetX X.K) := by
  intro pins s σ H x vs v us Q I rx rs h
  obtain ⟨a, b, xs, k, rfl, e, kx, hk, h⟩ := h
  obtain rfl : v = Value.ref a := rx
  obtain ⟨z, hd, dd⟩ := dx_rd I e kx
  have fin : ∀ {d : V} {u : Value} {tk' : Nat}, RelV d u → gotX xs k d (fun v => Q v H) → EP X pins σ Q (((atKey xs k).map (·.2)).getD u) { s with toks := tk' } := fun {d u tk'} rd g => by
    rcases g with ⟨g1, g2⟩ | ⟨p, w', g1, g2, g3⟩
    · rw [g1]; exact ⟨d, H, I.tok _, rd, g2⟩
    · rw [g1]; exact ⟨w', H, I.tok _, g2, g3⟩
  rcases h with ⟨rfl, g⟩ | ⟨d, rfl, g⟩
  · obtain rfl := Vals.ref1 rs
    exact call_meetsIn PySem.F.slot_dict_get dd.typeIs PySem.F.entry_dict_get (PySem.F.args_dict_get_2 _ _) (meetsH_dict_get (tk X.prog X.w) a b hd) ⟨tupleKind_room_in1 hu, k, xs, key_is I hk, dd, fin (d := .non) (u := .none) rfl g⟩
  · obtain ⟨u1, u2, rfl, r1, r2⟩ := vals2 rs
    obtain rfl : u1 = Value.ref b := r1
    exact call_meetsIn PySem.F.slot_dict_get dd.typeIs PySem.F.entry_dict_get (PySem.F.args_dict_get_3 _ _ _) (meetsH_dict_get_default (tk X.prog X.w) a b hd u2) ⟨tupleKind_room_in1 hu, k, xs, key_is I hk, dd, fin r2 g⟩
end
end Ng

set_option Elab.async false
set_option linter.all false
set_option maxRecDepth 100000
set_option maxHeartbeats 2000000
/-! Dicts with text keys; dicts with tuple keys: walked, cut, counted. -/
namespace Ng
open PySem PySem.Spec PyProof.Rows PySem.W L2
variable {X : Cx} {pins : List (Addr × Obj)} {σ : L2.St} {H : Hp} {s : Shared} {a b : Addr}
/-! ### d[k] of a dict with text keys -/
theorem dk_ty {kvs : List (Key × V)} (I : Inv X pins σ H s) (e : H a = some (.dK kvs)) : s.TypeIs (.ref a) "dict" := by
  have h : ObjOk X.prog X.w H s.heap a (.dK kvs) := I.hok a _ e
  simp only [ObjOk] at h
  obtain ⟨_, _, vs, _, d⟩ := h
  exact d.typeIs
def rIxK : R2 := fun x y H Q => ∃ a kvs k v, x = .ref a ∧ y = kV k ∧ H a = some (.dK kvs) ∧ valV kvs k = some v ∧ Q v H
theorem ix_dk (hu : X.A.units + 1 < cLine) : IxR X rIxK := by
  intro value slice pins s σ H x y v u Q I rx ry h hs
  obtain ⟨a, kvs, k, r, rfl, rfl, e, hv, q⟩ := h
  obtain rfl : v = Value.ref a := rx
  exact PyProof.Rows.tail_any (dk_ty I e) PySem.F.slot_dict_getitem.lookup (d_getItem hu I (.inl ⟨kvs, k, .inl e, rfl, hv.symm⟩) ry fun w' s' I' r' => ⟨r, H, I', r', q⟩) hs
/-! ### cuts -/
/-- del d[k] -/
def sDelX (K : PySem.W.Frag) (td ty : TE) : TS := fun D σ H => td σ H fun x H1 => ty σ H1 fun y H2 => ∃ (a b : Addr) (xs : List (List Int × Addr × Value)) (k : List Int), x = .ref a ∧ y = .ref b ∧ H2 a = some (DX a xs) ∧ KX K H2 xs ∧ SqT K H2 b (k.map V.int) ∧ (atKey xs k).isSome = true ∧ D.nx σ (upd H2 a (DX a (withoutH xs k)))
theorem without_len (xs : List (List Int × Addr × Value)) (k : List Int) : (withoutH xs k).length ≤ xs.length := List.length_filter_le _ _
theorem ps_delX {o i : Expr} {pos tpos : Pos} {td ty : TE} (hu : X.A.units + 1 < cLine) (ho : PE X o td) (hi : PE X i ty) : PS X (.Delete [.Subscript o i tpos] pos) (sDelX X.K td ty) := by
  refine ⟨fun pins s σ H D I h => ?_⟩
  refine wpAny_Delete (wpAny_deleteEach_cons (wpAny_delete_Subscript ?_))
  refine thn (ho.run pins s σ H _ I h) fun v s1 ⟨x, H1, I1, r1, q1⟩ => ?_
  refine thn (hi.run pins s1 σ H1 _ I1 q1) fun u s2 ⟨y, H2, I2, r2, a, b, xs, k, ex, ey, e, kx, hk, hs, q⟩ => ?_
  subst ex ey
  obtain rfl : v = Value.ref a := r1
  obtain rfl : u = Value.ref b := r2
  obtain ⟨z, hd, dd⟩ := dx_rd I2 e kx
  obtain ⟨p, hp⟩ := Option.isSome_iff_exists.mp hs
  refine wpAny_delItem_heap (tupleKind_room_in1 hu) (key_is I2 hk) hd dd hp (fun h' dd' hs => ?_) z
  have he : ∃ q, h'.get? a = some q := let ⟨q, _, _, hq, _⟩ := dd'; ⟨q, hq⟩
  refine wpAny_deleteEach_nil ⟨σ, _, d_write I2 (by rw [e]; exact True.intro) hs he (dx_new (Nat.le_trans (without_len xs k) z) hd dd'), q⟩
/-- d.pop(k), it is there -/
def rPopX (K : PySem.W.Frag) : V → List V → Hp → VK → Prop := fun x vs H Q => ∃ (a b : Addr) (xs : List (List Int × Addr × Value)) (k : List Int) (p : Addr × Value) (v : V), x = .ref a ∧ vs = [.ref b] ∧ H a = some (DX a xs) ∧ KX K H xs ∧ SqT K H b (k.map V.int) ∧ atKey xs k = some p ∧ RelV v p.2 ∧ Q v (upd H a (DX a (withoutH xs k)))
theorem mt_popX (hu : X.A.units + 1 < cLine) : MtR X "dict.pop" (rPopX X.K) := by
  intro pins s σ H x vs v us Q I rx rs h
  obtain ⟨a, b, xs, k, p, r, rfl, rfl, e, kx, hk, hp, rv, q⟩ := h
  obtain rfl : v = Value.ref a := rx
  obtain rfl := Vals.ref1 rs
  obtain ⟨z, hd, dd⟩ := dx_rd I e kx
  refine call_meetsIn PySem.F.slot_dict_pop dd.typeIs PySem.F.entry_dict_pop (PySem.F.args_dict_pop_2 _ _) (meetsH_dict_pop (tk X.prog X.w) a b hd [] (.inl rfl)) ⟨tupleKind_room_in1 hu, k, xs, key_is I hk, dd, z, fun p' hp' h' dd' hs => ?_, fun hn => by rw [hp] at hn; cases hn⟩
  rw [hp] at hp'
  cases hp'
  have he : ∃ q, h'.get? a = some q := let ⟨q, _, _, hq, _⟩ := dd'; ⟨q, hq⟩
  exact ⟨r, _, d_write I (by rw [e]; exact True.intro) hs he (dx_new (Nat.le_trans (without_len xs k) z) hd dd'), rv, q⟩
/-! ### len(d) -/
def rLenX (K : PySem.W.Frag) : List V → Hp → VK → Prop := fun vs H Q => ∃ (a : Addr) (xs : List (List Int × Addr × Value)), vs = [.ref a] ∧ H a = some (DX a xs) ∧ KX K H xs ∧ Q (.int xs.length) H
theorem dx_raw (I : Inv X pins σ H s) {xs : List (List Int × Addr × Value)} (e : H a = some (DX a xs)) : xs.length ≤ sizeLine ∧ (a == sysModules) = false ∧ ∃ o es ep, s.heap.get? a = some o ∧ o.ExactDict ∧ o.data = .dict es ep ∧ es.toList = xs.map entI := by
  obtain ⟨⟨z1, z2, z3, o, es, ep, q1, q2, q3, q4⟩, _⟩ := (show ObjOk X.prog X.w H s.heap a (DX a xs) from I.hok a _ e)
  exact ⟨z1, z2, o, es, ep, q1, q2, q3, q4⟩
theorem call_lenX : CallR X (.builtin "len") (rLenX X.K) := by
  intro pins s σ H vs us Q I rs h
  obtain ⟨a, xs, rfl, e, kx, q⟩ := h
  obtain rfl := Vals.ref1 rs
  obtain ⟨z, hd, dd⟩ := dx_rd I e kx
  have hz : xs.length ≤ 16777216 := by rw [sizeLine_eq] at z; exact z
  have hl : (pairsH xs).length = xs.length := by simp [pairsH]
  refine PyProof.Rows.call_len_slot (n := xs.length) dd.typeIs PySem.F.slot_dict_len (fun Q' hq => len_keyed (kvs := pairsH xs) hd ⟨xs, dd, rfl⟩ (by rw [hl]; exact hq)) (by omega) (by omega) ⟨.int xs.length, H, I.tok _, ⟨_, rfl⟩, q⟩
/-! ### for k in d, under a lock -/
def ItX (d : Addr) (o : Obj) (xs : List (List Int × Addr × Value)) : It where
  go := fun i H => H d = some (.frz o (DX d xs)) ∧ i < xs.length
  yld := fun i H x H' => H' = H ∧ ∃ k q v, xs[i]? = some (k, q, v) ∧ x = .ref q
  stop := fun i H => H d = some (.frz o (DX d xs)) ∧ xs.length ≤ i
theorem let_keys {A : Around} {E : Value → Shared → Prop} {it : Addr} {o : Obj} {tg : Expr} {u : Value} {Q : Unit → Shared → Prop} (h1 : s.heap.get? it = some o) (h2 : o.cls = .type "dict_keyiterator") (h : Q () s) : wpAny (model X.prog X.w) A (letOwnedTupleGo tg (.ref it) u) Q E s := by
  obtain ⟨oc, od, dt, sl⟩ := o
  simp only at h2
  subst h2
  cases tg <;> first | exact wpAny_pure h | skip
  all_goals
    cases u <;> first | exact wpAny_pure h | skip
    refine wpAny_bind (wpAny_load h1 ?_)
    cases dt <;> first | exact wpAny_pure h | skip
theorem turn_keysX {P : Program} {w : World} {K : PySem.W.Frag} {tg : Expr} {d : Addr} {o : Obj} {es : Array DictEntry} {ep : Nat} {xs : List (List Int × Addr × Value)} (it : Addr) (hd : o.data = .dict es ep) (he : es.toList = xs.map entI) :
    Turn P w K tg (ItX d o xs) [it] it fun i h => h.IsKeyIter it d i xs.length ep where
  mem := by simp
  obj := fun i h st c hc => by
    obtain rfl : c = it := by simpa using hc
    obtain ⟨o1, e1, _, d1⟩ := st
    exact ⟨o1, e1, fun v q => by rw [d1] at q; cases q⟩
  keep := fun i h h' st k => by
    obtain ⟨o1, e1, r⟩ := st
    exact ⟨o1, k it (by simp) _ e1, r⟩
  item := by
    intro X hP hw hK hc i pins s σ H E I hf st hg
    subst hP hw hK
    obtain ⟨hH, hi⟩ := hg
    have ho : ObjOk X.prog X.w H s.heap d (.frz o (DX d xs)) := I.hok d _ hH
    simp only [ObjOk] at ho
    have hget : s.heap.get? d = some o := ho.1
    have hsz : es.size = xs.length := by rw [← Array.length_toList, he, List.length_map]
    obtain ⟨k, q, v, hx⟩ : ∃ k q v, xs[i]? = some (k, q, v) := ⟨_, _, _, List.getElem?_eq_getElem hi⟩
    have hen : es[i]? = some (entI (k, q, v)) := by rw [← Array.getElem?_toList, he, List.getElem?_map, hx]; rfl
    refine next_key_item st hget hd hsz hen fun h' st' sb => ⟨_, rfl, ?_⟩
    obtain ⟨o2, e2, c2, d2⟩ := id st'
    refine let_keys (X := X) (s := { s with heap := h' }) e2 c2 ?_
    refine ⟨.ref q, H, I.turnedL (t' := s.toks) (ch := [it]) (fun c o hb z => (sb.2 c (fun y => hb (by simp [y]))).trans z) hf, rfl, ⟨rfl, k, q, v, hx, rfl⟩, st', fun c hcm => (hf c hcm).1⟩
  done := by
    intro X hP hw hK hc i pins s σ H E I hf st hg
    subst hP hw hK
    obtain ⟨hH, hi⟩ := hg
    have ho : ObjOk X.prog X.w H s.heap d (.frz o (DX d xs)) := I.hok d _ hH
    simp only [ObjOk] at ho
    have hget : s.heap.get? d = some o := ho.1
    have hsz : es.size = xs.length := by rw [← Array.length_toList, he, List.length_map]
    refine next_key_end (I.ok.hd hc) st hget hd hsz hi fun h' sb => ⟨rfl, ?_⟩
    refine I.turnedL (t' := s.toks) (ch := [it]) (fun c o hb z => sb c o (fun y => hb (by simp [y])) z) hf
  self := fun A i s Q E st h => wpAny_pyIter_keyiter st h
def iKeysX (td : TE) : TI := fun σ H R => td σ H fun x H1 => ∃ d o xs, x = .ref d ∧ H1 d = some (.frz o (DX d xs)) ∧ R (ItX d o xs) H1
theorem pi_keysX {tg e : Expr} {td : TE} (h : PE X e td) : PI X tg e (iKeysX td) := by
  refine ⟨fun pins s σ H R I q => ?_⟩
  refine thn (h.run pins s σ H _ I q) fun v s1 ⟨x, H1, I1, r1, d, o, xs, ex, hH, q1⟩ => ?_
  subst ex
  obtain rfl : v = Value.ref d := r1
  have ho : ObjOk X.prog X.w H1 s1.heap d (.frz o (DX d xs)) := I1.hok d _ hH
  simp only [ObjOk] at ho
  obtain ⟨hget, hx⟩ := ho
  obtain ⟨⟨z1, z2, z3, o', es, ep, g1, g2, g3, g4⟩, _⟩ := hx
  rw [hget] at g1
  cases g1
  refine iter_keys z2 hget g2 g3 ?_
  have I2 : Inv X pins σ H1 { s1 with heap := s1.heap.push { cls := .type "dict_keyiterator", data := .fields #[.ref d, .int 0 0, .int (es.size : Nat) 0, .int (ep : Nat) 0] } } := I1.kept (t' := s1.toks) fun _ _ q => Heap.get?_push_of_some _ q
  have hsz : es.size = xs.length := by rw [← Array.length_toList, g4, List.length_map]
  refine ⟨s1.heap.objs.size, [s1.heap.objs.size], _, _, H1, rfl, I2, turn_keysX s1.heap.objs.size g3 g4, ?_, fun c hcm => ?_, q1⟩
  · rw [← hsz]
    refine ⟨{ cls := .type "dict_keyiterator", data := .fields #[.ref d, .int 0 0, .int (es.size : Nat) 0, .int (ep : Nat) 0] }, ?_, rfl, rfl⟩
    simp [Heap.get?, Heap.push]
  · obtain rfl : c = s1.heap.objs.size := by simpa using hcm
    exact I1.fpOk (Nat.le_refl _) (I1.hok.fresh (Nat.le_refl _))
/-! ### sorted(xs), pairs of whole numbers -/
def leP (p q : Int × Int) : Bool := !SrtO.lexB q p
def srtP (ps : List (Int × Int)) : List (Int × Int) := ps.mergeSort leP
theorem leP_iff {p q : Int × Int} : leP p q = true ↔ p.1 < q.1 ∨ (p.1 = q.1 ∧ p.2 ≤ q.2) := by
  unfold leP SrtO.lexB
  by_cases h : q.1 = p.1
  · rw [if_pos h]; simp; omega
  · rw [if_neg h]; simp; omega
theorem leP_trans (a b c : Int × Int) (h1 : leP a b = true) (h2 : leP b c = true) : leP a c = true := by
  rw [leP_iff] at *; omega
theorem leP_total (a b : Int × Int) : (leP a b || leP b a) = true := by
  rw [Bool.or_eq_true, leP_iff, leP_iff]; omega
theorem leP_anti {a b : Int × Int} (h1 : leP a b = true) (h2 : leP b a = true) : a = b := by
  rw [leP_iff] at h1 h2
  obtain ⟨x, y⟩ := a; obtain ⟨z, w⟩ := b
  simp only at h1 h2
  simp only [Prod.mk.injEq]; omega
theorem sorted_unique : ∀ (l m : List (Int × Int)), l.Perm m → l.Pairwise (fun a b => leP a b = true) → m.Pairwise (fun a b => leP a b = true) → l = m
  | [], m, p, _, _ => by rw [List.nil_perm] at p; exact p.symm
  | a :: l, [], p, _, _ => by rw [List.perm_nil] at p; cases p
  | a :: l, b :: m, p, h1, h2 => by
    rw [List.pairwise_cons] at h1 h2
    have e : a = b := by
      rcases List.mem_cons.mp (p.mem_iff.mp List.mem_cons_self) with e | ha
      · exact e
      · rcases List.mem_cons.mp (p.mem_iff.mpr List.mem_cons_self) with e | hb
        · exact e.symm
        · exact leP_anti (h1.1 b hb) (h2.1 a ha)
    subst e
    rw [sorted_unique l m p.cons_inv h1.2 h2.2]
theorem srtP_of {ps qs : List (Int × Int)} (hp : qs.Perm ps) (hs : qs.Pairwise (fun a b => leP a b = true)) : qs = srtP ps :=
  sorted_unique _ _ (hp.trans (List.mergeSort_perm ps leP).symm) hs (List.pairwise_mergeSort leP_trans leP_total ps)
/-- the pair that a value is -/
def kH (h : Heap) : Value → Int × Int
  | .ref t => match h.get? t with
    | some o => match o.data with
      | .seq its _ => match its.toList with
        | [.int i _, .int j _] => (i, j)
        | _ => (0, 0)
      | _ => (0, 0)
    | none => (0, 0)
  | _ => (0, 0)
def PrV (K : PySem.W.Frag) (H : Hp) (x : V) (p : Int × Int) : Prop := ∃ t, x = .ref t ∧ SqT K H t [.int p.1, .int p.2]
def rSortX (K : PySem.W.Frag) : List V → Hp → VK → Prop := fun vs H Q => ∃ (a : Addr) (xs : List V) (ps : List (Int × Int)), vs = [V.ref a] ∧ SqL K H a xs ∧ Paired (PrV K H) xs ps ∧
  ∀ ys p, Paired (PrV K H) ys (srtP ps) → H p = none → Q (.ref p) (upd H p (.lst ys))
theorem prv_heap (I : Inv X pins σ H s) {x : V} {p : Int × Int} {v : Value} (h : PrV X.K H x p) (r : RelV x v) : Srt.IsPair s.heap v (kH s.heap v).1 (kH s.heap v).2 ∧ kH s.heap v = p := by
  obtain ⟨t, rfl, hq⟩ := h
  obtain rfl : v = Value.ref t := r
  obtain ⟨its, rv, ⟨o, h1, h2, n, h3⟩, _⟩ := I.tuple hq
  cases rv with
  | cons r1 rv =>
    cases rv with
    | cons r2 rv =>
      cases rv
      obtain ⟨t1, rfl⟩ := r1
      obtain ⟨t2, rfl⟩ := r2
      have e : kH s.heap (.ref t) = p := by simp only [kH, h1, h3]
      rw [e]
      exact ⟨⟨t, o, t1, t2, n, rfl, h1, h2, h3⟩, rfl⟩
theorem prv_all (I : Inv X pins σ H s) : ∀ {xs : List V} {ps : List (Int × Int)} {vs : List Value}, Paired (PrV X.K H) xs ps → Vals xs vs → (∀ v ∈ vs, Srt.IsPair s.heap v (kH s.heap v).1 (kH s.heap v).2) ∧ vs.map (kH s.heap) = ps ∧ ∀ v ∈ vs, ∃ x, RelV x v ∧ PrV X.K H x (kH s.heap v)
  | [], _, _, .nil, .nil => ⟨fun _ h => by (cases h), rfl, fun _ h => by (cases h)⟩
  | x :: xs, p :: ps, v :: vs, .cons h t, .cons r rs => by
    obtain ⟨i1, i2, i3⟩ := prv_all I t rs
    obtain ⟨a, b⟩ := prv_heap I h r
    refine ⟨fun w hw => ?_, by rw [List.map_cons, b, i2], fun w hw => ?_⟩
    · rcases List.mem_cons.mp hw with rfl | hw
      · exact a
      · exact i1 w hw
    · rcases List.mem_cons.mp hw with rfl | hw
      · exact ⟨x, r, by rw [b]; exact h⟩
      · exact i3 w hw
theorem prv_back {h : Heap} : ∀ {vs : List Value}, (∀ v ∈ vs, ∃ x, RelV x v ∧ PrV X.K H x (kH h v)) → ∃ ys, Vals ys vs ∧ Paired (PrV X.K H) ys (vs.map (kH h))
  | [], _ => ⟨[], .nil, .nil⟩
  | v :: vs, q => by
    obtain ⟨x, h1, h2⟩ := q v List.mem_cons_self
    obtain ⟨ys, h3, h4⟩ := prv_back fun w hw => q w (List.mem_cons_of_mem _ hw)
    exact ⟨x :: ys, .cons h1 h3, .cons h2 h4⟩
theorem cr_sortedX : CallR X (.builtin "sorted") (rSortX X.K) := by
  intro pins s σ H vs us Q I rs h
  obtain ⟨a, xs, ps, rfl, hq, hp, q⟩ := h
  obtain rfl := Vals.ref1 rs
  obtain ⟨its, rv, pl, hl⟩ := I.list hq
  obtain ⟨k1, k2, k3⟩ := prv_all I hp rv
  refine SrtO.sorted_pairsO (k := kH s.heap) pl.isList (by rw [← Paired.length rv]; exact hl) k1 fun h' d out hs hst hk hd ho => ?_
  obtain ⟨ys, r1, r2⟩ := prv_back (X := X) (H := H) (h := s.heap) (vs := out) fun v hv => k3 v (hst.perm.mem_iff.mp hv)
  have e : out.map (kH s.heap) = srtP ps := by
    refine srtP_of (by rw [← k2]; exact hst.perm.map _) ?_
    rw [List.pairwise_map]
    exact hs.imp fun {v u} z => by
      have z : SrtO.lexB (kH s.heap u) (kH s.heap v) = false := z
      unfold leP; rw [z]; rfl
  rw [e] at r2
  obtain ⟨n, ho⟩ := ho
  have hlen : ys.length ≤ sizeLine := by
    rw [Paired.length r1, hst.perm.length_eq, ← Paired.length rv]; exact hl
  have new : ObjOk X.prog X.w (upd H d (.lst ys)) h' d (.lst ys) := ⟨hlen, out, n, r1, ho⟩
  exact ⟨.ref d, _, I.turnedNew (t' := s.toks) (ch := []) (fun b o _ z => hk b o z) (fun b hb => by cases hb) hd new, rfl, q ys d r2 (I.hok.fresh hd)⟩
end Ng

set_option Elab.async false
set_option linter.all false
set_option maxRecDepth 100000
set_option maxHeartbeats 4000000
/-! zip of a list and a tuple; list(reversed(a list)). -/
namespace Ng
open PySem PySem.Spec PyProof.Rows L2
/-- the list at a, the tuple at b as they stand at each turn, the items in new pairs -/
def ItzM (K : PySem.W.Frag) (a b : Addr) : L2.It :=
  ⟨fun i H => ∃ (xs ys : List V) (x y : V), SqL K H a xs ∧ SqT K H b ys ∧ xs[i]? = some x ∧ ys[i]? = some y,
    fun i H v H' => ∃ T x y, v = .ref T ∧ H T = none ∧ H' = upd H T (.tup [x, y]) ∧ (∀ xs, SqL K H a xs → xs[i]? = some x) ∧ ∀ ys, SqT K H b ys → ys[i]? = some y,
    fun i H => ∃ xs ys : List V, SqL K H a xs ∧ SqT K H b ys ∧ (xs.length ≤ i ∨ ys.length ≤ i)⟩
theorem drawsL {prog : Program} {w : World} {A : Around} (hh : A.handled = none) (it l : Addr) (hne : l ≠ it) (items : Array Value) (n : Nat) :
    Draws prog w A it [it, l] (max n items.size) (fun i v => items[i]? = some v) (fun i h => n ≤ i ∧ h.IsListIter it l i ∧ h.IsList l items) where
  live := fun _ _ st => let ⟨o, ho, _⟩ := st.2.1; ⟨o, ho⟩
  frame := fun _ _ _ st hk => ⟨st.1, st.2.1.at fun o e => hk it (by simp) o e, st.2.2.at fun o e => hk l (by simp) o e⟩
  item := fun i s Q E hi st hQ => by
    have hl : i < items.size := by have := st.1; omega
    refine wpAny_nextOf_list_item st.2.1 st.2.2 (x := items[i]) (by simp [hl]) fun h' hit' hs' => ?_
    exact hQ _ h' s.toks (by simp [hl]) ⟨by have := st.1; omega, hit', st.2.2.extBut hs'.extBut hne⟩ hs'
  done := fun s Q E st hE => wpAny_nextOf_list_end hh st.2.1 st.2.2 (by simp; omega) hE
theorem drawsT {prog : Program} {w : World} {A : Around} (hh : A.handled = none) (it t : Addr) (hne : t ≠ it) (items : Array Value) (n : Nat) :
    Draws prog w A it [it, t] (max n items.size) (fun i v => items[i]? = some v) (fun i h => n ≤ i ∧ h.IsTupleIter it t i ∧ h.IsTuple t items) where
  live := fun _ _ st => let ⟨o, ho, _⟩ := st.2.1; ⟨o, ho⟩
  frame := fun _ _ _ st hk => ⟨st.1, st.2.1.at fun o e => hk it (by simp) o e, st.2.2.at fun o e => hk t (by simp) o e⟩
  item := fun i s Q E hi st hQ => by
    have hl : i < items.size := by have := st.1; omega
    refine wpAny_nextOf_tuple_item st.2.1 st.2.2 (x := items[i]) (by simp [hl]) fun h' hit' hs' => ?_
    exact hQ _ h' s.toks (by simp [hl]) ⟨by have := st.1; omega, hit', st.2.2.extBut hs'.extBut hne⟩ hs'
  done := fun s Q E st hE => wpAny_nextOf_tuple_end hh st.2.1 st.2.2 (by simp; omega) hE
theorem turn_zipM {P : Program} {w : World} {K : PySem.W.Frag} {elts : List Expr} {kk : Nat} {tpos : Pos} {a b z TI TO i1 i2 : Addr} (S : ZipSep2 z TI TO i1 i2 [i1, a] [i2, b]) (hai : a ≠ i1) (hbi : b ≠ i2) :
    Turn P w K (.Tuple elts kk tpos) (ItzM K a b) [z, TI, TO, i1, i2] z (fun i h => IsZip h z TI TO .none ∧ IsTupOf2 h TI (.ref i1) (.ref i2) ∧ (∃ x y, IsTupOf2 h TO x y) ∧ h.IsListIter i1 a i ∧ h.IsTupleIter i2 b i) where
  mem := by simp
  obj := fun i h st c hc => by
    obtain ⟨hz, hTI, ⟨x, y, hTO⟩, ⟨o1, e1, _, d1⟩, ⟨o2, e2, _, d2⟩⟩ := st
    have e' : c = z ∨ c = TI ∨ c = TO ∨ c = i1 ∨ c = i2 := by simpa using hc
    rcases e' with q | q | q | q | q
    · rw [q]; exact ⟨_, hz, fun v q => nomatch q⟩
    · rw [q]; exact ⟨_, hTI, fun v q => nomatch q⟩
    · rw [q]; exact ⟨_, hTO, fun v q => nomatch q⟩
    · rw [q]; exact ⟨o1, e1, fun v q => by rw [d1] at q; cases q⟩
    · rw [q]; exact ⟨o2, e2, fun v q => by rw [d2] at q; cases q⟩
  keep := fun i h h' st k => by
    obtain ⟨hz, hTI, ⟨x, y, hTO⟩, h1, h2⟩ := st
    exact ⟨k z (by simp) _ hz, k TI (by simp) _ hTI, ⟨x, y, k TO (by simp) _ hTO⟩, h1.at fun o q => k i1 (by simp) o q, h2.at fun o q => k i2 (by simp) o q⟩
  item := by
    intro X hP hw hK hc i pins s σ H E I hf st hg
    subst hP hw hK
    obtain ⟨hz, hTI, ⟨x0, y0, hTO⟩, h1, h2⟩ := st
    obtain ⟨xs, ys, x, y, hqx, hqy, hx, hy⟩ := hg
    obtain ⟨its, rv, p, _⟩ := I.list hqx
    obtain ⟨its2, rv2, p2, _⟩ := I.tuple hqy
    obtain ⟨u, hu, ru⟩ := rv.get hx
    obtain ⟨u2, hu2, ru2⟩ := rv2.get hy
    have hzl : z < s.heap.objs.size := Heap.lt_size hz
    have hh : X.A.in1.handled = none := I.ok.hd hc
    have hl1 : i < its.toArray.size := by simpa using (List.getElem?_eq_some_iff.mp hu).1
    have hl2 : i < its2.toArray.size := by simpa using (List.getElem?_eq_some_iff.mp hu2).1
    refine wpAny_pyNext_zipD2_item S (Draws.list hh i1 a hai its.toArray) (Draws.tuple hh i2 b hbi its2.toArray) hz hTI hTO ⟨h1, p.isList⟩ ⟨h2, p2⟩ hl1 hl2 fun v1 v2 h' tk hv1 hv2 z' TO' h1' h2' hT hsz hk => ?_
    obtain rfl : v1 = u := by
      have : its.toArray[i]? = some u := by simpa using hu
      rw [this] at hv1; exact (Option.some.inj hv1).symm
    obtain rfl : v2 = u2 := by
      have : its2.toArray[i]? = some u2 := by simpa using hu2
      rw [this] at hv2; exact (Option.some.inj hv2).symm
    refine ⟨_, rfl, wpAny_letOwnedTupleGo_zip (s := { s with heap := h', toks := tk }) z' fun h'' z'' sb => ?_⟩
    have hT2 : h''.get? s.heap.objs.size = some { cls := .type "tuple", data := .seq #[v1, v2] } := (sb.2 _ (Nat.ne_of_gt hzl)).trans hT
    have new : ObjOk X.prog X.w (upd H s.heap.objs.size (.tup [x, y])) h'' s.heap.objs.size (.tup [x, y]) :=
      ⟨by show 2 ≤ sizeLine; decide, [v1, v2], .cons ru (.cons ru2 .nil), ⟨_, hT2, rfl, _, rfl⟩⟩
    have I1 : Inv X pins σ (upd H s.heap.objs.size (.tup [x, y])) { s with heap := h'', toks := tk } :=
      I.turnedNew (t' := tk) (ch := [z, TI, TO, i1, i2]) (fun c o hb q => (sb.2 c (fun q' => hb (by simp [q']))).trans (hk c o (fun q' => hb (by simp [q'])) (fun q' => hb (by simp [q'])) (fun q' => hb (by simp [q'])) (fun q' => hb (by simp [q'])) q)) hf (Nat.le_refl _) new
    refine ⟨.ref s.heap.objs.size, _, I1, rfl, ⟨_, x, y, rfl, I.hok.fresh (Nat.le_refl _), rfl, fun l hl => by rw [I.list_inj hl hqx]; exact hx, fun l hl => by rw [I.tuple_inj hl hqy]; exact hy⟩, ⟨z'', ?_, ⟨v1, v2, ?_⟩, ?_, ?_⟩, fun c hcm => ?_⟩
    · exact (sb.2 _ S.TIz).trans (hk _ _ S.TIz S.TITO S.TIi1 S.TIi2 hTI)
    · exact (sb.2 _ S.TOz).trans TO'
    · exact h1'.1.at fun o q => (sb.2 _ (Ne.symm S.zi1)).trans q
    · exact h2'.1.at fun o q => (sb.2 _ (Ne.symm S.zi2)).trans q
    · have hlt : c < s.heap.objs.size := by
        have e' : c = z ∨ c = TI ∨ c = TO ∨ c = i1 ∨ c = i2 := by simpa using hcm
        rcases e' with q | q | q | q | q
        · rw [q]; exact hzl
        · rw [q]; exact Heap.lt_size hTI
        · rw [q]; exact Heap.lt_size hTO
        · rw [q]; obtain ⟨_, e1, _⟩ := h1; exact Heap.lt_size e1
        · rw [q]; obtain ⟨_, e2, _⟩ := h2; exact Heap.lt_size e2
      rw [upd_ne (Nat.ne_of_lt hlt)]
      exact (hf c hcm).1
  done := by
    intro X hP hw hK hc i pins s σ H E I hf st hg
    subst hP hw hK
    obtain ⟨hz, hTI, ⟨x0, y0, hTO⟩, h1, h2⟩ := st
    obtain ⟨xs, ys, hqx, hqy, hend⟩ := hg
    obtain ⟨its, rv, p, _⟩ := I.list hqx
    obtain ⟨its2, rv2, p2, _⟩ := I.tuple hqy
    have l1 := rv.length
    have l2 := rv2.length
    have hh : X.A.in1.handled = none := I.ok.hd hc
    refine wpAny_pyNext_zipD2_end S (drawsL hh i1 a hai its.toArray i) (drawsT hh i2 b hbi its2.toArray i) hz hTI hTO ⟨Nat.le_refl _, h1, p.isList⟩ ⟨Nat.le_refl _, h2, p2⟩ (by omega) (by omega) (by simp; omega) fun h' tk hk => ⟨rfl, I.turnedL (t' := tk) (ch := [z, TI, TO, i1, i2]) (fun c o hb q =>
      hk c o (fun q' => hb (by simp [q'])) (fun q' => hb (by simp [q'])) (fun q' => hb (by simp [q'])) (fun q' => hb (by simp [q'])) q) hf⟩
  self := fun A i s Q E st h => wpAny_pyIter_zip st.1 h
def iZipM (K : PySem.W.Frag) (ta : TA) : TI := fun σ H R => ta σ H fun vs H1 => ∃ a b xs ys, vs = [.ref a, .ref b] ∧ ((SqL K H1 a xs ∧ SqT K H1 b ys ∧ R (ItzM K a b) H1) ∨ (SqT K H1 a xs ∧ SqT K H1 b ys ∧ R (RZ.ItzT K a b) H1))
theorem pi_zipM {X : Cx} {e e2 : Expr} {ta : TA} {p pos tpos : Pos} {elts : List Expr} {kk : Nat} (hg : Gl X "zip") (hm : X.mg "zip" = none) (ha : PA X [e, e2] ta)
    (hs : starEach [e, e2] X.env = (false, eval e X.env) :: starEach [e2] X.env := by rfl) (hpl : (backTo pos (starEach [e2] X.env)).any (·.1) = false := by rfl) :
    PI X (.Tuple elts kk tpos) (.Call (.Name "zip" p) [e, e2] [] pos) (iZipM X.K ta) := by
  refine ⟨fun pins s σ H R I h => ?_⟩
  refine Call_ (ld_blt I hg hm PyProof.Rows.boot_zip (PyProof.Rows.callWith_type1 (thn (ha.run pos pins s σ H _ I h) fun us s1 ⟨vs, H1, I1, r1, q1⟩ => ?_) hs hpl))
  obtain ⟨a, b, xs, ys, ex, q1⟩ := q1
  subst ex
  cases r1 with
  | cons r rr =>
    cases rr with
    | cons r' rr =>
      cases rr
      cases r
      cases r'
      have fresh5 : ∀ c, c ∈ [s1.heap.objs.size + 4, s1.heap.objs.size + 2, s1.heap.objs.size + 3, s1.heap.objs.size, s1.heap.objs.size + 1] → FpOk X pins H1 c := fun c hcm => by
        have e' : c = s1.heap.objs.size + 4 ∨ c = s1.heap.objs.size + 2 ∨ c = s1.heap.objs.size + 3 ∨ c = s1.heap.objs.size ∨ c = s1.heap.objs.size + 1 := by simpa using hcm
        have hle : s1.heap.objs.size ≤ c := by
          rcases e' with z | z | z | z | z
          · rw [z]; exact Nat.le_add_right _ _
          · rw [z]; exact Nat.le_add_right _ _
          · rw [z]; exact Nat.le_add_right _ _
          · rw [z]; exact Nat.le_refl _
          · rw [z]; exact Nat.le_add_right _ _
        exact I1.fpOk hle (I1.hok.fresh hle)
      rcases q1 with ⟨hqx, hqy, q⟩ | ⟨hqx, hqy, q⟩
      · obtain ⟨its, rv, p1, _⟩ := I1.list hqx
        obtain ⟨its2, rv2, p2, _⟩ := I1.tuple hqy
        obtain ⟨o2, ho2, _⟩ := id p2
        have ha1 : a < s1.heap.objs.size := p1.lt
        have hb1 : b < s1.heap.objs.size := Heap.lt_size ho2
        refine zip_begins2 (begins_list a its.toArray) (begins_tuple b its2.toArray) p1.isList (show s1.heap.IsTuple b its2.toArray from p2) fun h' hz hTI hTO h1 h2 hsz hk => wpAny_pyIter_zip hz ?_
        have I2 : Inv X pins σ H1 { s1 with heap := h' } := I1.kept (t' := s1.toks) hk
        have hne1 : a ≠ s1.heap.objs.size := Nat.ne_of_lt ha1
        have hne2 : b ≠ s1.heap.objs.size + 1 := Nat.ne_of_lt (Nat.lt_succ_of_lt hb1)
        exact ⟨s1.heap.objs.size + 4, [s1.heap.objs.size + 4, s1.heap.objs.size + 2, s1.heap.objs.size + 3, s1.heap.objs.size, s1.heap.objs.size + 1], _, _, H1, rfl, I2, turn_zipM (zip_sep2 (fp1 := [a]) (fp2 := [b]) (by simpa using ha1) (by simpa using hb1)) hne1 hne2, ⟨hz, hTI, ⟨_, _, hTO⟩, ⟨_, h1, rfl, rfl⟩, ⟨_, h2, rfl, rfl⟩⟩, fresh5, q⟩
      · obtain ⟨its, rv, p1, _⟩ := I1.tuple hqx
        obtain ⟨its2, rv2, p2, _⟩ := I1.tuple hqy
        obtain ⟨o1, ho1, _⟩ := id p1
        obtain ⟨o2, ho2, _⟩ := id p2
        refine RZ.call_zipT (show s1.heap.IsTuple a its.toArray from p1) (show s1.heap.IsTuple b its2.toArray from p2) fun h' hz hTI hTO h1 h2 hsz hk => wpAny_pyIter_zip hz ?_
        have I2 : Inv X pins σ H1 { s1 with heap := h' } := I1.kept (t' := s1.toks) hk
        exact ⟨s1.heap.objs.size + 4, [s1.heap.objs.size + 4, s1.heap.objs.size + 2, s1.heap.objs.size + 3, s1.heap.objs.size, s1.heap.objs.size + 1], _, _, H1, rfl, I2, RZ.turn_zipT (PySem.W.ktu_apart s1.heap.objs.size a b (Heap.lt_size ho1) (Heap.lt_size ho2)), ⟨hz, hTI, ⟨_, _, hTO⟩, h1, h2⟩, fresh5, q⟩

section
variable {prog : Program} {w : World} {A : Around} {E : Value → Shared → Prop} {s : Shared}
theorem list_init_rev {R : Result → Shared → Prop} {it l : Addr} {items : Array Value} (hh : A.handled = none) (hit : s.heap.IsRevIter it l ((items.size : Int) - 1)) (hl : s.heap.IsList l items) (hne : l ≠ it) (hn : items.size ≤ sizeLine)
    (S : Addr) (hS : s.heap.get? S = some { cls := .type "list", data := .seq #[] }) (hSi : S ≠ it) (hSl : S ≠ l)
    (hR : ∀ h' tk acc' c', (∀ b o, b ≠ S → b ≠ it → s.heap.get? b = some o → h'.get? b = some o) → h'.get? S = some { cls := .type "list", dict := none, data := .seq acc' c', slots := #[] } →
      ItemsOf (fun i v => items[items.size - 1 - i]? = some v) acc' items.size → R (.ok (.ret .none)) { s with heap := h', toks := tk }) :
    wpAny (model prog w) A.in1 (Builtin.«list.__init__» ⟨[.ref S, .ref it], []⟩)
      (fun fin s' => match fin with | .done f => R (.ok f) s' | .again c' => c'.quiet = true ∧ codeAny (model prog w) A c' R s') (fun e s' => R (.error e) s') s := by
  have W := (Walks.listRev (prog := prog) (w := w) (A := A.in1) hh it l hne items).toS
  have hSf : S ∉ [it, l] := by simp only [List.mem_cons, List.not_mem_nil, or_false, not_or]; exact ⟨hSi, hSl⟩
  show wpAny _ _ (do let old ← Builtin.List.listItems (.ref S); Builtin.List.listUpdate (.ref S) (fun _ => #[]); letGo old.toList.reverse; Builtin.List.listExtendWith (.ref S) (.ref it) .none) _ _ s
  refine wpAny_bind ?_
  unfold Builtin.List.listItems
  refine wpAny_bind (wpAny_seqItems hS rfl (wpAny_pure ?_))
  show wpAny _ _ (updateSeq S (fun _ => #[]) >>= fun _ => letGo (#[] : Array Value).toList.reverse >>= fun _ => Builtin.List.listExtendWith (.ref S) (.ref it) .none) _ _ s
  refine wpAny_bind (wpAny_updateSeq hS rfl ?_)
  have hS₂ := Heap.get?_update_self (Obj.mapSeq (fun _ => (#[] : Array Value))) hS rfl
  have oth : ∀ b o, b ≠ S → s.heap.get? b = some o → (s.heap.update S (Obj.mapSeq (fun _ => (#[] : Array Value)))).get? b = some o :=
    fun b o hb e => (Heap.get?_update_other _ _ (Ne.symm hb)).trans e
  refine wpAny_bind (wpAny_letGo ?_)
  generalize hH : s.heap.update S (Obj.mapSeq (fun _ => (#[] : Array Value))) = h₁ at *
  have hit1 : h₁.IsRevIter it l ((items.size : Int) - 1) := hit.at fun o e => oth it o (Ne.symm hSi) e
  have hl1 : h₁.IsList l items := let ⟨o, ho, r⟩ := hl; ⟨o, oth l o (Ne.symm hSl) ho, r⟩
  have hT : ({ s with heap := h₁ } : Shared).TypeIs (.ref it) "list_reverseiterator" := Heap.IsRevIter.typeIs (s := { s with heap := h₁ }) hit1
  have h1 : Builtin.List.listSameRef (.ref S) (.ref it) = false := by simp [Builtin.List.listSameRef, hSi]
  unfold Builtin.List.listExtendWith
  refine wpAny_bind (wpAny_typeOf hT ?_)
  rw [if_neg (by rw [h1]; decide)]
  refine wpAny_bind (wpAny_pyIter_revIter (s := { s with heap := h₁ }) hit1 ?_)
  refine wpAny_bind (wpAny_holding ?_)
  unfold Builtin.List.listLengthHint
  refine wpAny_bind (wpAny_specialOf hT RT.nolen_lri ?_)
  show wpAny _ A.in1 (specialOf (Value.ref it) (Str.ofString "__length_hint__") >>= _) _ _ _
  refine wpAny_bind (wpAny_specialOf hT RT.hint_lri ?_)
  generalize hid : ("list_reverseiterator.__length_hint__" : String) = id0
  wp_delta
  rw [show splitId id0 = some ("list_reverseiterator", "__length_hint__") from by subst hid; decide +kernel]
  subst hid
  refine wpAny_bind (wpAny_isInstance (b := true) hT (by rw [isSubtype_type]; kernel_rfl) ?_)
  refine wpAny_pure ?_
  rw [if_neg (by decide)]
  have e0 : ((items.size : Nat) : Int) - 1 - ((0 : Nat) : Int) = (items.size : Int) - 1 := by omega
  refine wpAny_pure ⟨plainId_quiet F.plain_extend_loop _, codeAny_extend_loopS W hn _ hSf _ items.size 0 _ _ _ rfl (Nat.zero_le _) ⟨Nat.zero_le _, by rw [e0]; exact hit1, hl1⟩ hS₂ (ItemsOf.nil _) fun s' acc' c' hm hS' hacc => ?_⟩
  rw [Moved.eq_with hm]
  refine hR s'.heap s'.toks acc' c' (fun b o hb hb2 e => hm.heap b o (fun hmem => ?_) (oth b o hb e)) hS' hacc
  rcases List.mem_cons.mp hmem with e' | hmem
  · exact hb e'
  · exact hb2 (List.mem_singleton.mp hmem)
theorem call_list_rev {it l : Addr} {items : Array Value} {Q : Value → Shared → Prop} (hh : A.handled = none) (hit : s.heap.IsRevIter it l ((items.size : Int) - 1)) (hl : s.heap.IsList l items) (hne : l ≠ it) (hn : items.size ≤ sizeLine)
    (hQ : ∀ h' tk acc' c', (∀ b o, b ≠ it → s.heap.get? b = some o → h'.get? b = some o) →
      h'.get? s.heap.objs.size = some { cls := .type "list", dict := none, data := .seq acc' c', slots := #[] } → ItemsOf (fun i v => items[items.size - 1 - i]? = some v) acc' items.size → Q (.ref s.heap.objs.size) { s with heap := h', toks := tk }) :
    wpAny (model prog w) A (call (.type "list") [.ref it]) Q E s := by
  refine callType_codes (Q₁ := fun obj s₁ => obj = .ref s.heap.objs.size ∧ s₁ = { s with heap := s.heap.push { cls := .type "list", data := .seq #[] } }) F.called_list (F.typeCall_list_1 _) F.entry_list_init
    (code_list_new _ ⟨rfl, rfl⟩) fun obj s₁ h₁ => ?_
  obtain ⟨rfl, rfl⟩ := h₁
  have hS : (s.heap.push { cls := .type "list", data := .seq #[] }).get? s.heap.objs.size = some { cls := .type "list", data := .seq #[] } := Heap.get?_push_size _ rfl
  obtain ⟨oi, hoi, _⟩ := id hit
  obtain ⟨ol, hol, _⟩ := id hl
  have hSi : s.heap.objs.size ≠ it := Nat.ne_of_gt (Heap.lt_size hoi)
  have hSl : s.heap.objs.size ≠ l := Nat.ne_of_gt (Heap.lt_size hol)
  refine ⟨⟨_, hS, rfl⟩, F.args_list_init_2 _ _, list_init_rev (A := A.in1) (s := { s with heap := s.heap.push { cls := .type "list", data := .seq #[] } }) hh (hit.at fun o e => Heap.get?_push_of_some _ e) (hl.push _) hne hn _ hS hSi hSl fun h' tk acc' c' hk hS' hacc => ?_⟩
  exact ⟨rfl, hQ h' tk acc' c' (fun b o hb e => hk b o (Nat.ne_of_lt (Heap.lt_size e)) hb (Heap.get?_push_of_some _ e)) hS' hacc⟩
end
/-- list(reversed(x)), x a list: a new list -/
def tLstRev (K : PySem.W.Frag) (te : TE) : TE := fun σ H Q => te σ H fun v H1 => ∃ (a : Addr) (xs : List V), v = .ref a ∧ SqL K H1 a xs ∧ ∀ q, H1 q = none → Q (.ref q) (upd H1 q (.lst xs.reverse))
theorem pe_lstRev {X : Cx} {e : Expr} {te : TE} {p p2 pos pos2 : Pos} (hc : X.calm = true) (hg : Gl X "list") (hm : X.mg "list" = none) (hg2 : Gl X "reversed") (hm2 : X.mg "reversed" = none) (he : PE X e te)
    (hs : starEach [e] X.env = (false, eval e X.env) :: starEach [] X.env := by rfl)
    (hs2 : starEach [.Call (.Name "reversed" p2) [e] [] pos2] X.env = (false, eval (.Call (.Name "reversed" p2) [e] [] pos2) X.env) :: starEach [] X.env := by rfl) :
    PE X (.Call (.Name "list" p) [.Call (.Name "reversed" p2) [e] [] pos2] [] pos) (tLstRev X.K te) := by
  refine ⟨fun pins s σ H Q I h => ?_⟩
  refine Call_ (ld_blt I hg hm boot_list (PyProof.Rows.callWith_type1 (args_cons (Call_ (ld_blt I hg2 hm2 PyProof.Rows.boot_reversed (PyProof.Rows.callWith_type1 (args_cons (thn (he.run pins s σ H _ I h) fun u s1 ⟨v, H1, I1, r1, q1⟩ => args_nil ?_) hs) hs rfl))) hs2) hs2 rfl))
  obtain ⟨a, xs, ev, hq, q⟩ := q1
  subst ev
  obtain rfl : u = Value.ref a := r1
  obtain ⟨its, rv, p', hz⟩ := I1.list hq
  refine call_reversed_list p'.isList (args_nil ?_)
  have k0 : ∀ b o, s1.heap.get? b = some o → (s1.heap.push (revObj a ((its.toArray.size : Int) - 1))).get? b = some o := fun b o e => Heap.get?_push_of_some _ e
  have I2 : Inv X pins σ H1 { s1 with heap := s1.heap.push (revObj a ((its.toArray.size : Int) - 1)) } := I1.kept (t' := s1.toks) k0
  obtain ⟨f0, f1, f2, f3, f4, f5⟩ := I1.fpOk (H' := H1) (b := s1.heap.objs.size) (Nat.le_refl _) (I1.hok.fresh (Nat.le_refl _))
  have hl := p'.isList
  obtain ⟨ol, hol, _⟩ := id hl
  have hne : a ≠ s1.heap.objs.size := Nat.ne_of_lt (Heap.lt_size hol)
  have hn : its.toArray.size ≤ sizeLine := by rw [List.size_toArray, ← rv.length]; exact hz
  refine call_list_rev (s := { s1 with heap := s1.heap.push (revObj a ((its.toArray.size : Int) - 1)) }) (I1.ok.hd hc) ⟨_, Heap.get?_push_size _ rfl, rfl, rfl⟩ (hl.push _) hne hn fun h' tk acc c' hk hS hi => ?_
  have hN : (s1.heap.push (revObj a ((its.toArray.size : Int) - 1))).objs.size = s1.heap.objs.size + 1 := by rw [Heap.size_push]
  have new : ObjOk X.prog X.w (upd H1 (s1.heap.push (revObj a ((its.toArray.size : Int) - 1))).objs.size (.lst xs.reverse)) h' (s1.heap.push (revObj a ((its.toArray.size : Int) - 1))).objs.size (.lst xs.reverse) :=
    ⟨by rw [List.length_reverse]; exact hz, acc.toList, c', RT.vals_rev rv hi, by rw [Array.toArray_toList]; exact hS⟩
  have I3 := I2.turnedNew (t' := tk) (ch := [s1.heap.objs.size]) (fun b o hb e => hk b o (fun z => hb (by simp [z])) e) (fun b hb => by
    rw [List.mem_singleton.mp hb]
    exact I1.fpOk (Nat.le_refl _) (I1.hok.fresh (Nat.le_refl _))) (Nat.le_refl _) new
  exact ⟨.ref _, _, I3, rfl, q _ (I2.hok.fresh (Nat.le_refl _))⟩
end Ng

set_option Elab.async false
set_option linter.all false
set_option maxRecDepth 100000
set_option maxHeartbeats 4000000
/-! enumerate of a tuple; sorted of a dict whose keys are pairs of whole numbers. -/
namespace Ng
open PySem PySem.Spec PyProof.Rows PySem.W L2
theorem meets_enumerate_new1 {v : Value} {o : Obj} {H : Heap → Prop} (B : Begins v o H) :
    Meets (Builtin.«enumerate.__new__» ⟨[.type "enumerate", v], []⟩) (fun _ R s => H s.heap ∧
      R (.ok (.ret (.ref (s.heap.push o).objs.size))) { s with heap := (s.heap.push o).push { cls := .type "enumerate", data := .fields #[.none, .bool false, .ref s.heap.objs.size, rawInt 0, .none, .none] } }) :=
  .of_wp fun prog w A R s h => by
    obtain ⟨hp, g, d, tk, os⟩ := s; obtain ⟨h1, h⟩ := h
    have hsub := sub_enumerate
    have q1 : ∀ {A' : Around} {E : Value → Shared → Prop} {Q : Value → Shared → Prop}, Q (.ref hp.objs.size) ⟨hp.push o, g, d, tk, os⟩ → wpAny (model prog w) A' (pyIter v) Q E ⟨hp, g, d, tk, os⟩ :=
      fun q => B.iter prog w _ _ ⟨hp, g, d, tk, os⟩ _ h1 q
    wp_walk using q1
    refine wpAny_stack_any fun st => wpAny_pure ?_
    split
    · rename_i c _ _ _ _ _
      cases (c == Value.type "enumerate")
      · wp_walk using q1
        exact ⟨_, rfl, h⟩
      · wp_walk using q1
        exact ⟨_, rfl, h⟩
    · wp_walk using q1
      exact ⟨_, rfl, h⟩
section
variable {prog : Program} {w : World} {A : Around} {E : Value → Shared → Prop} {s : Shared}
theorem enum_begins1 {v : Value} {o : Obj} {H : Heap → Prop} {Q : Value → Shared → Prop} (B : Begins v o H) (h1 : H s.heap)
    (h : ∀ h', IsEnum h' (s.heap.objs.size + 1) s.heap.objs.size 0 .none → h'.get? s.heap.objs.size = some o → h'.objs.size = s.heap.objs.size + 2 →
      (∀ b o, s.heap.get? b = some o → h'.get? b = some o) → Q (.ref (s.heap.objs.size + 1)) { s with heap := h' }) :
    wpAny (model prog w) A (call (.type "enumerate") [v]) Q E s := by
  refine callType_new F.called_enumerate (by decide) (F.typeCall_enumerate_1 _) (F.newCall_enumerate_1 _) (fun obj => F.args_object_init_2 obj _) F.entry_enumerate_new
    (meets_enumerate_new1 B) ⟨h1, ?_⟩
  have hz : (s.heap.push o).objs.size = s.heap.objs.size + 1 := Heap.size_push ..
  show _ ∧ _
  rw [hz]
  have he : IsEnum ((s.heap.push o).push { cls := .type "enumerate", data := .fields #[.none, .bool false, .ref s.heap.objs.size, rawInt 0, .none, .none] }) (s.heap.objs.size + 1) s.heap.objs.size 0 .none := by
    have := Heap.get?_push_size (s.heap.push o) (o := { cls := .type "enumerate", data := .fields #[.none, .bool false, .ref s.heap.objs.size, rawInt 0, .none, .none] }) rfl
    rw [hz] at this; exact this
  refine ⟨⟨_, he, rfl⟩, h _ he (Heap.get?_push_of_some _ (Heap.get?_push_size _ B.free)) (by rw [Heap.size_push, hz]) fun b o x => Heap.get?_push_of_some _ (Heap.get?_push_of_some _ x)⟩
end
/-- the tuple at a as it stands at each turn, each item in a new pair -/
def IteT (K : PySem.W.Frag) (a : Addr) : L2.It :=
  ⟨fun i H => ∃ (xs : List V) (x : V), SqT K H a xs ∧ xs[i]? = some x, fun i H v H' => ∃ T x, v = .ref T ∧ H T = none ∧ H' = upd H T (.tup [.int (i : Nat), x]) ∧ ∀ xs, SqT K H a xs → xs[i]? = some x, fun i H => ∃ xs : List V, SqT K H a xs ∧ xs.length ≤ i⟩
theorem turn_enumT {P : Program} {w : World} {K : PySem.W.Frag} {elts : List Expr} {kk : Nat} {tpos : Pos} (a e it : Addr) :
    Turn P w K (.Tuple elts kk tpos) (IteT K a) [e, it] e (fun i h => (∃ old, IsEnum h e it ((i : Nat) : Int) old) ∧ h.IsTupleIter it a i ∧ e ≠ it ∧ a ≠ it ∧ a ≠ e) where
  mem := by simp
  obj := fun i h st b hb => by
    obtain ⟨⟨old, he⟩, ⟨o, ho, hc, hd⟩, _⟩ := st
    have e' : b = e ∨ b = it := by simpa using hb
    rcases e' with z | z
    · rw [z]; exact ⟨_, he, fun v q => nomatch q⟩
    · rw [z]; exact ⟨o, ho, fun v q => by rw [hd] at q; cases q⟩
  keep := fun i h h' st k => let ⟨⟨old, he⟩, hi, hne⟩ := st; ⟨⟨old, k e (by simp) _ he⟩, hi.at fun o q => k it (by simp) o q, hne⟩
  item := by
    intro X hP hw hK hc i pins s σ H E I hf st hg
    subst hP hw hK
    obtain ⟨⟨old, he⟩, hit, hne, hai, hae⟩ := st
    obtain ⟨xs, x, hq, hx⟩ := hg
    obtain ⟨its, rv, p, hz⟩ := I.tuple hq
    obtain ⟨u, hu, ru⟩ := rv.get hx
    have hel : e < s.heap.objs.size := Heap.lt_size he
    have hil : it < s.heap.objs.size := by obtain ⟨_, q, _⟩ := hit; exact Heap.lt_size q
    have hh : X.A.in1.handled = none := I.ok.hd hc
    have hlt : i < its.toArray.size := by simpa using (List.getElem?_eq_some_iff.mp hu).1
    refine wpAny_pyNext_enum_itemD (Draws.tuple hh it a hai its.toArray) he ⟨hit, p⟩ hlt hne (by simp only [List.mem_cons, List.not_mem_nil, or_false, not_or]; exact ⟨hne, Ne.symm hae⟩) fun v h' tk hv ho st' hT hsz hk => ?_
    obtain rfl : v = u := by
      have : its.toArray[i]? = some u := by simpa using hu
      rw [this] at hv; exact (Option.some.inj hv).symm
    refine ⟨_, rfl, wpAny_letOwnedTupleGo_enum (s := { s with heap := h', toks := tk + 1 }) ho fun h'' he' sb => ?_⟩
    have hT2 : h''.get? s.heap.objs.size = some { cls := .type "tuple", data := .seq #[.int i tk, v] } := (sb.2 _ (Nat.ne_of_gt hel)).trans hT
    have new : ObjOk X.prog X.w (upd H s.heap.objs.size (.tup [.int (i : Nat), x])) h'' s.heap.objs.size (.tup [.int (i : Nat), x]) :=
      ⟨by show 2 ≤ sizeLine; decide, [.int i tk, v], .cons ⟨_, rfl⟩ (.cons ru .nil), ⟨_, hT2, rfl, _, rfl⟩⟩
    have I1 : Inv X pins σ (upd H s.heap.objs.size (.tup [.int (i : Nat), x])) { s with heap := h'', toks := tk + 1 } :=
      I.turnedNew (t' := tk + 1) (ch := [e, it]) (fun b ob hb q => (sb.2 b (fun z => hb (by simp [z]))).trans (hk b ob (fun z => hb (by simp [z])) (fun z => hb (by simp [z])) q)) hf (Nat.le_refl _) new
    refine ⟨.ref s.heap.objs.size, _, I1, rfl, ⟨_, x, rfl, I.hok.fresh (Nat.le_refl _), rfl, fun ys hy => by rw [I.tuple_inj hy hq]; exact hx⟩, ⟨⟨v, ?_⟩, st'.1.at fun o q => (sb.2 it (Ne.symm hne)).trans q, hne, hai, hae⟩, fun b hb => ?_⟩
    · have e1 : ((i + 1 : Nat) : Int) = (i : Int) + 1 := by omega
      rw [e1]; exact he'
    · have hb' : b < s.heap.objs.size := by
        have e' : b = e ∨ b = it := by simpa using hb
        rcases e' with z | z
        · rw [z]; exact hel
        · rw [z]; exact hil
      rw [upd_ne (Nat.ne_of_lt hb')]
      exact (hf b hb).1
  done := by
    intro X hP hw hK hc i pins s σ H E I hf st hg
    subst hP hw hK
    obtain ⟨⟨old, he⟩, hit, hne, hai, hae⟩ := st
    obtain ⟨xs, hq, hx⟩ := hg
    obtain ⟨its, rv, p, hz⟩ := I.tuple hq
    have hl := rv.length
    have hh : X.A.in1.handled = none := I.ok.hd hc
    have hm : max i its.toArray.size = i := by simp; omega
    refine wpAny_pyNext_enum_endD (drawsT hh it a hai its.toArray i) he (by rw [hm]; exact ⟨Nat.le_refl _, hit, p⟩) fun h' eb => ⟨rfl, I.turnedL (t' := s.toks) (ch := [e, it]) (fun b o hb q => eb b o (fun z => hb (by simp [z])) q) hf⟩
  self := fun A i s Q E st h => let ⟨⟨_, he⟩, _⟩ := st; wpAny_pyIter_enum he h
def iEnumM (K : PySem.W.Frag) (ta : TA) : TI := fun σ H R => ta σ H fun vs H1 => ∃ a xs, vs = [.ref a] ∧ ((SqL K H1 a xs ∧ R (Ite K a) H1) ∨ (SqT K H1 a xs ∧ R (IteT K a) H1))
theorem pi_enumM {X : Cx} {e : Expr} {ta : TA} {p pos tpos : Pos} {elts : List Expr} {kk : Nat} (hg : Gl X "enumerate") (hm : X.mg "enumerate" = none) (ha : PA X [e] ta) (hs : starEach [e] X.env = [(false, eval e X.env)] := by rfl) :
    PI X (.Tuple elts kk tpos) (.Call (.Name "enumerate" p) [e] [] pos) (iEnumM X.K ta) := by
  refine ⟨fun pins s σ H R I h => ?_⟩
  refine Call_ (ld_blt I hg hm boot_enumerate (PyProof.Rows.callWith_type1 (thn (ha.run pos pins s σ H _ I h) fun us s1 ⟨vs, H1, I1, r1, q1⟩ => ?_) hs rfl))
  obtain ⟨a, xs, ex, q1⟩ := q1
  subst ex
  have fresh2 : ∀ b, b ∈ [s1.heap.objs.size + 1, s1.heap.objs.size] → FpOk X pins H1 b := fun b hb => by
    have e' : b = s1.heap.objs.size + 1 ∨ b = s1.heap.objs.size := by simpa using hb
    have hle : s1.heap.objs.size ≤ b := by
      rcases e' with z | z
      · rw [z]; exact Nat.le_add_right _ _
      · rw [z]; exact Nat.le_refl _
    exact I1.fpOk hle (I1.hok.fresh hle)
  cases r1 with
  | cons r rr =>
    cases rr
    cases r
    rcases q1 with ⟨hq, q⟩ | ⟨hq, q⟩
    · obtain ⟨its, rv, p', hz⟩ := I1.list hq
      refine call_enumerate_list p'.isList fun h' he hit hsz hk => wpAny_pyIter_enum he ?_
      have I2 : Inv X pins σ H1 { s1 with heap := h' } := I1.kept (t' := s1.toks) hk
      exact ⟨s1.heap.objs.size + 1, [s1.heap.objs.size + 1, s1.heap.objs.size], _, _, H1, rfl, I2, turn_enum a (s1.heap.objs.size + 1) s1.heap.objs.size, ⟨⟨.none, he⟩, hit, Nat.succ_ne_self _⟩, fresh2, q⟩
    · obtain ⟨its, rv, p', hz⟩ := I1.tuple hq
      obtain ⟨o1, ho1, _⟩ := id p'
      have hlt : a < s1.heap.objs.size := Heap.lt_size ho1
      refine enum_begins1 (begins_tuple a its.toArray) (show s1.heap.IsTuple a its.toArray from p') fun h' he hit hsz hk => wpAny_pyIter_enum he ?_
      have I2 : Inv X pins σ H1 { s1 with heap := h' } := I1.kept (t' := s1.toks) hk
      exact ⟨s1.heap.objs.size + 1, [s1.heap.objs.size + 1, s1.heap.objs.size], _, _, H1, rfl, I2, turn_enumT a (s1.heap.objs.size + 1) s1.heap.objs.size, ⟨⟨.none, he⟩, ⟨_, hit, rfl, rfl⟩, Nat.succ_ne_self _, Nat.ne_of_lt hlt, Nat.ne_of_lt (Nat.lt_succ_of_lt hlt)⟩, fresh2, q⟩
/-! ### sorted(d), keys pairs of whole numbers -/
section
variable {X : Cx}
/-- sorted(d) of a raw dict: the collected list stands somewhere, the new one at p -/
theorem sorted_rawO {prog : Program} {w : World} {A : Around} {E : Value → Shared → Prop} {s : Shared} {d : Addr} {o : Obj} {es : Array DictEntry} {ep : Nat} {k : Value → Int × Int} {Q : Value → Shared → Prop} (lo : (d == sysModules) = false) (hx : o.ExactDict) (hd : o.data = .dict es ep)
    (ho : s.heap.get? d = some o) (hh : A.handled = none) (hz : es.size ≤ sizeLine) (hp : ∀ v ∈ es.toList.map (·.key), Srt.IsPair s.heap v (k v).1 (k v).2)
    (h : ∀ (h1 h2 : Heap) (tk : Nat) (out : List Value), SrtO.Srtd (fun v u => SrtO.lexB (k v) (k u)) out → SrtO.Stb (fun v u => SrtO.lexB (k v) (k u)) out (es.toList.map (·.key)) → (∀ b o, s.heap.get? b = some o → h1.get? b = some o) → (∀ b o, h1.get? b = some o → h2.get? b = some o) → (∃ n, h2.get? h1.objs.size = some (seqObj "list" out.toArray n)) → Q (.ref h1.objs.size) { s with heap := h2, toks := tk }) :
    wpAny (model prog w) A (call (.builtin "sorted") [.ref d]) Q E s := by
  refine Calls.call_function_entry PyProof.Rows.kind_sorted PyProof.Rows.plain_sorted PyProof.Rows.entry_sorted (PyProof.Rows.args_sorted1 _) ?_
  unfold Builtin.«sorted»
  refine wpAny_bind (m := checkCount "sorted" 1 1 _) (wpAny_pure ?_)
  refine wpAny_bind (PySem.W.kdu_collect (A := A.in1) (kdl_raw lo hx hd) hh ho hz fun h' tk acc hk hacc => ?_)
  have hv : acc.toList = es.toList.map (·.key) := by
    apply List.ext_getElem?
    intro j
    by_cases hj : j < acc.size
    · obtain ⟨en, e1, e2⟩ := hacc.2 j acc[j] (by rw [Array.getElem?_eq_getElem hj])
      rw [List.getElem?_map, Array.getElem?_toList, Array.getElem?_toList, e1, Array.getElem?_eq_getElem hj, e2]
      rfl
    · have h1 := hacc.1
      rw [List.getElem?_eq_none (by simp; omega), List.getElem?_eq_none (by simp; omega)]
  have hzl : acc.toList.length ≤ sizeLine := by rw [Array.length_toList, hacc.1]; exact hz
  refine wpAny_bind (wpAny_newList ?_ hzl)
  have hoL : (h'.push (seqObj "list" acc.toList.toArray 0)).get? h'.objs.size = some (seqObj "list" acc.toList.toArray 0) := Heap.get?_push_size _ rfl
  have keep : ∀ b o, s.heap.get? b = some o → b ≠ h'.objs.size ∧ (h'.push (seqObj "list" acc.toList.toArray 0)).get? b = some o := fun b o q =>
    ⟨Nat.ne_of_lt (Heap.lt_size (hk b o q)), Heap.get?_push_of_some _ (hk b o q)⟩
  show wpAny _ _ _ _ _ { s with heap := h'.push (seqObj "list" acc.toList.toArray 0), toks := tk }
  refine wpAny_bind (wpAny_holding (wpAny_call_entry PyProof.Rows.slot_list_sort ⟨_, hoL, rfl⟩ PyProof.Rows.entry_list_sort
    (SrtO.list_sort_ord (s := { s with heap := h'.push (seqObj "list" acc.toList.toArray 0), toks := tk }) (SrtO.swo_lex k) hoL hzl (fun h2 => ?_) fun out hs hb => ⟨_, rfl, ?_⟩) (PyProof.Rows.args_list_sort _)))
  · refine SrtO.pairs_sortableO (s := { s with heap := h'.push (seqObj "list" acc.toList.toArray 0), toks := tk }) (by omega) (fun v hm => ?_) fun o e => ?_
    · rw [hv] at hm
      exact (hp v hm).keeps fun b o e _ => (keep b o e).2
    · have e' : some o = some (seqObj "list" acc.toList.toArray 0) := e.symm.trans hoL
      cases e'
      intro c
      exact absurd (Value.type.inj c) (by decide)
  · obtain ⟨e', he'⟩ := PyProof.Rows.sortedHeap_at (vs := acc.toList) (out := out.toArray) hoL
    refine wpAny_pure ⟨_, rfl, h h' _ tk out hs (by rw [← hv]; exact hb) hk (fun b o q => ?_) ⟨e', he'⟩⟩
    have hb := Heap.lt_size q
    rw [PyProof.Rows.sortedHeap_old (Nat.ne_of_lt hb) (by rw [Heap.size_push]; exact Nat.lt_succ_of_lt hb)]
    exact Heap.get?_push_of_some _ q
/-- the keys as pairs -/
def KPr (xs : List (List Int × Addr × Value)) (ps : List (Int × Int)) : Prop := xs.map (·.1) = ps.map fun p => [p.1, p.2]
def rSortDX (K : PySem.W.Frag) : List V → Hp → VK → Prop := fun vs H Q => ∃ (a : Addr) (xs : List (List Int × Addr × Value)) (ps : List (Int × Int)), vs = [V.ref a] ∧ H a = some (DX a xs) ∧ KX K H xs ∧ KPr xs ps ∧
  ∀ ys p, Paired (PrV K H) ys (srtP ps) → H p = none → Q (.ref p) (upd H p (.lst ys))
theorem kpr_paired {K : PySem.W.Frag} {H : Hp} : ∀ {xs : List (List Int × Addr × Value)} {ps : List (Int × Int)}, KX K H xs → KPr xs ps → Paired (PrV K H) (xs.map fun x => V.ref x.2.1) ps ∧ Vals (xs.map fun x => V.ref x.2.1) (xs.map fun x => Value.ref x.2.1)
  | [], [], _, _ => ⟨.nil, .nil⟩
  | [], _ :: _, _, h => by simp [KPr] at h
  | _ :: _, [], _, h => by simp [KPr] at h
  | x :: xs, p :: ps, kx, h => by
    simp only [KPr, List.map_cons, List.cons.injEq] at h
    obtain ⟨h1, h2⟩ := kpr_paired (xs := xs) (ps := ps) (fun y hy => kx y (List.mem_cons_of_mem _ hy)) h.2
    have hx := kx x List.mem_cons_self
    rw [h.1] at hx
    exact ⟨.cons ⟨_, rfl, hx⟩ h1, .cons rfl h2⟩
theorem cr_sortedDX (hc : X.calm = true) : CallR X (.builtin "sorted") (rSortDX X.K) := by
  intro pins s σ H vs us Q I rs h
  obtain ⟨a, xs, ps, rfl, e, kx, hk, q⟩ := h
  obtain rfl := Vals.ref1 rs
  obtain ⟨z1, z2, o, es, ep, q1, q2, q3, q4⟩ := dx_raw I e
  obtain ⟨pp, vv⟩ := kpr_paired kx hk
  have hkeys : es.toList.map (·.key) = xs.map fun x => Value.ref x.2.1 := by
    rw [q4, List.map_map]; rfl
  obtain ⟨k1, k2, k3⟩ := prv_all I pp vv
  have hsz : es.size ≤ sizeLine := by rw [← Array.length_toList, q4, List.length_map]; exact z1
  refine sorted_rawO (k := kH s.heap) z2 q2 q3 q1 (I.ok.hd hc) hsz (by rw [hkeys]; exact k1) fun h1 h2 tk out hs hst hk1 hk2 ho => ?_
  rw [hkeys] at hst
  obtain ⟨ys, r1, r2⟩ := prv_back (X := X) (H := H) (h := s.heap) (vs := out) fun v hv => k3 v (hst.perm.mem_iff.mp hv)
  have e : out.map (kH s.heap) = srtP ps := by
    refine srtP_of (by rw [← k2]; exact hst.perm.map _) ?_
    rw [List.pairwise_map]
    exact hs.imp fun {v u} z => by
      have z : SrtO.lexB (kH s.heap u) (kH s.heap v) = false := z
      unfold leP; rw [z]; rfl
  rw [e] at r2
  obtain ⟨n, ho⟩ := ho
  have hlen : ys.length ≤ sizeLine := by
    rw [Paired.length r1, hst.perm.length_eq, List.length_map]; exact z1
  have I1 : Inv X pins σ H { s with heap := h1, toks := tk } := I.kept hk1
  exact ⟨.ref h1.objs.size, upd H h1.objs.size (.lst ys), I1.laid (t' := tk) hk2 (Nat.le_refl _) (show ObjOk X.prog X.w _ _ _ (.lst ys) from ⟨hlen, out, n, r1, ho⟩), rfl, q ys _ r2 (I1.hok.fresh (Nat.le_refl _))⟩
end
end Ng

set_option Elab.async false
set_option linter.all false
/-! An engine: a small language over plain data, with a total evaluator. -/
namespace Ng
open PySem

/-- plain data; ref: a cell of the store -/
inductive D where
  | non | bl (b : Bool) | int (i : Int) | str (x : Str) | tup (ds : List D) | ref (n : Nat) | exc (c a : Nat)

mutual
def D.beq : D → D → Bool
  | .non, .non => true
  | .bl a, .bl b => a == b
  | .int i, .int j => i == j
  | .str x, .str y => decide (x = y)
  | .tup xs, .tup ys => D.beqs xs ys
  | .ref m, .ref n => m == n
  | .exc m b, .exc n c => m == n && b == c
  | _, _ => false
def D.beqs : List D → List D → Bool
  | [], [] => true
  | x :: xs, y :: ys => D.beq x y && D.beqs xs ys
  | _, _ => false
end
mutual
theorem D.beq_refl : ∀ d : D, D.beq d d = true
  | .non => rfl
  | .bl a => by simp [D.beq]
  | .int i => by simp [D.beq]
  | .str x => by simp [D.beq]
  | .tup xs => by simp only [D.beq]; exact D.beqs_refl xs
  | .ref n => by simp [D.beq]
  | .exc n a => by simp [D.beq]
theorem D.beqs_refl : ∀ ds : List D, D.beqs ds ds = true
  | [] => rfl
  | x :: xs => by simp only [D.beqs, D.beq_refl x, D.beqs_refl xs, Bool.and_self]
end
mutual
theorem D.of_beq : ∀ {a b : D}, D.beq a b = true → a = b
  | .non, b, h => by cases b <;> simp_all [D.beq]
  | .bl x, b, h => by cases b <;> simp_all [D.beq]
  | .int x, b, h => by cases b <;> simp_all [D.beq]
  | .str x, b, h => by cases b <;> simp_all [D.beq]
  | .ref x, b, h => by cases b <;> simp_all [D.beq]
  | .exc x y, b, h => by cases b <;> simp_all [D.beq]
  | .tup xs, b, h => by
    cases b with
    | tup ys => simp only [D.beq] at h; rw [D.of_beqs h]
    | _ => simp [D.beq] at h
theorem D.of_beqs : ∀ {xs ys : List D}, D.beqs xs ys = true → xs = ys
  | [], [], _ => rfl
  | [], _ :: _, h => by simp [D.beqs] at h
  | _ :: _, [], h => by simp [D.beqs] at h
  | x :: xs, y :: ys, h => by
    simp only [D.beqs, Bool.and_eq_true] at h
    rw [D.of_beq h.1, D.of_beqs h.2]
end
instance : DecidableEq D := fun a b => if h : D.beq a b = true then isTrue (D.of_beq h) else isFalse fun e => h (by rw [e]; exact D.beq_refl b)

/-- what stands in a cell: a list; a list that is never written; a dict (keys tuples; keys ints and texts); an instance (its class by name, its attributes) -/
inductive Cell where
  | lst (ds : List D) | ro (ds : List D) | dct (kvs : List (List Int × D)) | dk (kvs : List (L2.Key × D)) | hid (kvs : List (List Int × D)) | ins (x : Str) (fs : List (Str × D))
  deriving DecidableEq
abbrev Store := List Cell
abbrev Env := List (Option D)

/-- an outcome: a value, an exception (its class by number, its attributes), or nothing that the engine knows -/
inductive R (α : Type) where
  | ok (a : α) (S : Store) | exc (c : Nat) (fs : List (Str × D)) (S : Store) | bad
def R.bind {α β : Type} (r : R α) (k : α → Store → R β) : R β :=
  match r with
  | .ok a S => k a S
  | .exc c fs S => .exc c fs S
  | .bad => .bad
inductive O where
  | nx (ρ : Env) (S : Store) | bk (ρ : Env) (S : Store) | ct (ρ : Env) (S : Store) | ret (d : D) (S : Store) | exc (c : Nat) (fs : List (Str × D)) (ρ : Env) (S : Store) | bad
def O.of {α : Type} (ρ : Env) (r : R α) (k : α → Store → O) : O :=
  match r with
  | .ok a S => k a S
  | .exc c fs S => .exc c fs ρ S
  | .bad => .bad

inductive B2 where
  | add | sub | mul | fdiv | mod | pow
  deriving DecidableEq
inductive CO where
  | eq | ne | lt | le | gt | ge | is | isnot | in_ | notin
  deriving DecidableEq
/-- built-ins by name -/
inductive Bi where
  | len | abs | min2 | max2 | min3 | max3 | int | str | tuple | list | any | all | sum | sorted | minL | maxL | dict0 | dict
  deriving DecidableEq
/-- methods of built-in types -/
inductive Me where
  | append | index | pop | popAt | get1 | get2 | extend | clear | reverse | insert
  deriving DecidableEq
/-- types asked by isinstance -/
inductive Ty where
  | int | bool | str | tuple | list | dict
  deriving DecidableEq

/-- methods of texts -/
inductive SM where
  | split | join | startswith | upper
  deriving DecidableEq
/-- expressions, tests, argument lists (nil, cons), iterables -/
inductive E where
  | var (i : Nat) | non | bl (b : Bool) | int (i : Int) | str (x : Str) | glb (x : Str) (d : D)
  | bin (o : B2) (a b : E) | neg (a : E)
  | cmp (o : CO) (a b : E) | chain (o1 o2 : CO) (a b c : E)
  | not (a : E) | and (a b : E) | or (a b : E) | ite (c a b : E)
  | tup (as : E) | lst (as : E)
  | nil | cons (a as : E)
  | ix (a b : E) | slc (a lo hi : E)
  | call (f : Nat) (as : E) | bi (f : Bi) (as : E) | me (m : Me) (o as : E)
  | isi (a : E) (t : List Ty) (multi : Bool)
  | isx (a : E) (y : Str) (tbl : List Bool)
  | rng (as : E) | enm (as : E) | zp (as : E) | itm (a : E)
  | bln (a : E) | lrv (a : E)
  | gix (x : Str) (kvs : List (Int × D)) (a : E)
  | dd0 | dd1 (k v : E) | dd2 (k v k2 v2 : E)
  | kdd (ks : List Str) (vs : E) | pop0 (o : E) | lk (o e : E)
  | fjs (as : E) | fmt (a : E) | sm (m : SM) (o a : E) | sm0 (m : SM) (o : E)
  | gdx (x : Str) (kvs : List (Str × D)) (a : E) | gdin (x : Str) (kvs : List (Str × D)) (neg : Bool) (a : E)
  | lc (own : List Nat) (tg src cond elt : E)
  | fld (c f : Str) (o : E) | mth (f : Nat) (c m : Str) (o as : E)
  | lc2 (own own2 : List Nat) (tg src tg2 src2 elt : E)

/-! ### operations on data -/
def linesz : Nat := 16777216
def b2i (b : Bool) : Int := if b then 1 else 0
def getC (S : Store) (n : Nat) : Option Cell := S[n]?
/-- the items of a list or a tuple -/
def seqD (S : Store) : D → Option (List D)
  | .tup ds => some ds
  | .ref n => match S[n]? with
    | some (.lst ds) => some ds
    | some (.ro ds) => some ds
    | _ => none
  | _ => none
def truD (S : Store) : D → Option Bool
  | .non => some false
  | .bl b => some b
  | .int i => some (i != 0)
  | .str x => if x.length ≤ linesz then some ((x.length : Int) != 0) else none
  | .tup ds => some !ds.isEmpty
  | .ref n => match S[n]? with
    | some (.lst ds) => some !ds.isEmpty
    | some (.ro ds) => some !ds.isEmpty
    | _ => none
  | .exc .. => none

mutual
/-- data as PyData; rf tells of the cells -/
def toPyW (rf : Nat → Option PyData) : D → Option PyData
  | .non => some .none
  | .bl b => some (.bool b)
  | .int i => some (.int i)
  | .str x => some (.str x)
  | .tup ds => (toPysW rf ds).map .tuple
  | .ref n => rf n
  | .exc .. => none
def toPysW (rf : Nat → Option PyData) : List D → Option (List PyData)
  | [] => some []
  | d :: ds => match toPyW rf d, toPysW rf ds with
    | some x, some xs => some (x :: xs)
    | _, _ => none
end
def toPyN (S : Store) : Nat → Nat → Option PyData
  | 0, _ => none
  | n + 1, m => match S[m]? with
    | some (.lst ds) => (toPysW (toPyN S n) ds).map .list
    | some (.ro ds) => (toPysW (toPyN S n) ds).map .list
    | _ => none
def toPy (S : Store) (d : D) : Option PyData := toPyW (toPyN S 6) d

def intsD : List D → Option (List Int)
  | [] => some []
  | .int b :: r => (intsD r).map fun bs => b :: bs
  | _ :: _ => none
/-- a dict's key; what stands at it; the pairs behind a store -/
def keyI : D → Option (List Int)
  | .tup ds => intsD ds
  | _ => none
def dGet (kvs : List (List Int × D)) (k : List Int) : Option D := (kvs.find? fun p => decide (p.1 = k)).map (·.2)
def dPut (kvs : List (List Int × D)) (k : List Int) (d : D) : List (List Int × D) :=
  if (dGet kvs k).isSome then kvs.map (fun p => if p.1 = k then (p.1, d) else p) else kvs ++ [(k, d)]
/-- without a key -/
def dDel (kvs : List (List Int × D)) (k : List Int) : List (List Int × D) := kvs.filter fun p => decide (p.1 ≠ k)
/-- dicts with text keys -/
def kGet (kvs : List (L2.Key × D)) (k : L2.Key) : Option D := (kvs.find? fun p => decide (p.1 = k)).map (·.2)
def kPut (kvs : List (L2.Key × D)) (k : L2.Key) (d : D) : List (L2.Key × D) :=
  if (kvs.any fun p => decide (p.1 = k)) = true then kvs.map (fun p => if p.1 = k then (p.1, d) else p) else kvs ++ [(k, d)]
def dPuts (kvs ps : List (List Int × D)) : List (List Int × D) := ps.foldl (fun acc p => dPut acc p.1 p.2) kvs
def keysI : List (D × D) → Option (List (List Int × D))
  | [] => some []
  | (x, d) :: r => match keyI x, keysI r with
    | some k, some ps => some ((k, d) :: ps)
    | _, _ => none
/-- a display of pairs: the dict that stands empty in cell n is filled -/
def ddR (n : Nat) (ps : List (D × D)) (S : Store) : R D := match S[n]? with
  | some (.dct []) => match keysI ps with
    | some kvs => .ok (.ref n) (S.set n (.dct (dPuts [] kvs)))
    | none => .bad
  | _ => .bad
/-- == but of dicts -/
def eqD0 (S : Store) (x y : D) : Option Bool :=
  match x, y with
  | .int i, .int j => some (decide (i = j))
  | .str a, .str b => some (decide (a = b))
  | .bl a, .bl b => some (decide (a = b))
  | .non, .non => some true
  | x, y => match toPy S x, toPy S y with
    | some a, some b => if SeqAt.shaped a && SeqAt.shaped b then some (PyData.eqv a b) else none
    | _, _ => none

/-- == of two data, as PyData -/
def eqDp (S : Store) (x y : D) : Option Bool := match toPy S x, toPy S y with
  | some a, some b => if SeqAt.shaped a && SeqAt.shaped b then some (PyData.eqv a b) else none
  | _, _ => none
/-- == of a dict's pairs with another's -/
def eqKvs (S : Store) (b : List (List Int × D)) : List (List Int × D) → Option Bool
  | [] => some true
  | (k, d) :: r => match dGet b k with
    | none => some false
    | some e => match eqDp S d e, eqKvs S b r with
      | some x, some y => some (x && y)
      | _, _ => none
def eqDct (S : Store) (x y : D) : Option Bool := match x, y with
  | .ref m, .ref n => match S[m]?, S[n]? with
    | some (.dct a), some (.dct b) => if a.length = b.length then eqKvs S b a else some false
    | _, _ => none
  | _, _ => none
def eqD (S : Store) (x y : D) : Option Bool := match eqD0 S x y with
  | some b => some b
  | none => eqDct S x y
/-- what may be compared by «in» -/
def flatD : D → Bool
  | .non => true | .bl _ => true | .int _ => true | .str _ => true
  | _ => false
def eqF : D → D → Bool
  | .int i, .int j => i == j
  | .int i, .bl b => i == (if b then 1 else 0)
  | .bl b, .int i => (if b then 1 else 0) == i
  | .bl a, .bl b => a == b
  | .str a, .str b => decide (a = b)
  | .non, .non => true
  | _, _ => false
def inF (x : D) (xs : List D) : Bool := xs.any fun y => eqF y x
/-- «in» a list of data of any depth -/
def inN (S : Store) (x : D) (xs : List D) : Option Bool := match toPy S x, toPysW (toPyN S 6) xs with
  | some p, some ps => if SeqAt.shaped p && SeqAt.shaped (.list ps) then some (ps.any fun z => PyData.eqv z p) else none
  | _, _ => none
/-- the first place of an equal item -/
def indexN (S : Store) (x : D) (xs : List D) : Option Nat := match toPy S x, toPysW (toPyN S 6) xs with
  | some p, some ps => if SeqAt.shaped p && SeqAt.shaped (.list ps) then (ps.findIdx? fun z => PyData.eqv z p) else none
  | _, _ => none

def keyOf : D → Option L2.Key
  | .int i => some (.inl i)
  | .str x => some (.inr x)
  | _ => none
def keysOf : List D → Option (List L2.Key)
  | [] => some []
  | d :: ds => match keyOf d, keysOf ds with
    | some k, some ks => some (k :: ks)
    | _, _ => none

def bin2 (o : B2) (x y : D) (S : Store) : R D :=
  match o, x, y with
  | .add, .int i, .int j => .ok (.int (i + j)) S
  | .add, .str a, .str b => if a.length + b.length ≤ linesz then .ok (.str (a ++ b)) S else .bad
  | .add, .tup a, .tup b => if a.length + b.length ≤ linesz then .ok (.tup (a ++ b)) S else .bad
  | .add, .ref l, .ref m => match S[l]?, S[m]? with
    | some (.lst a), some (.lst b) => if a.length + b.length ≤ linesz then .ok (.ref S.length) (S ++ [.lst (a ++ b)]) else .bad
    | _, _ => .bad
  | .sub, .int i, .int j => .ok (.int (i - j)) S
  | .mul, .int i, .int j => if (-18446744073709551616 < i ∧ i < 18446744073709551616) ∨ (-18446744073709551616 < j ∧ j < 18446744073709551616) then .ok (.int (i * j)) S else .bad
  | .mul, .ref l, .int k => match S[l]? with
    | some (.lst a) => if -9223372036854775808 ≤ k ∧ k < 9223372036854775808 ∧ a.length * k.toNat ≤ linesz then .ok (.ref S.length) (S ++ [.lst (List.replicate k.toNat a).flatten]) else .bad
    | _ => .bad
  | .mul, .tup a, .int k => if 2 ≤ k ∧ k ≤ 1000 ∧ a.length ≤ 1000 ∧ a.isEmpty = false then .ok (.tup (List.replicate k.toNat a).flatten) S else if k = 1 then .ok (.tup a) S else if k = 0 ∧ a.isEmpty = false then .ok (.tup []) S else .bad
  | .fdiv, .int i, .int j => if 0 < j ∧ j < 1073741824 then .ok (.int (i / j)) S else .bad
  | .mod, .int i, .int j => if 0 < j then .ok (.int (i % j)) S else .bad
  | .pow, .int i, .int j => if 0 ≤ j ∧ j ≤ 1000000 ∧ i.natAbs < 18446744073709551616 then .ok (.int (i ^ j.toNat)) S else .bad
  | _, _, _ => .bad

def lexD : List D → List D → Option Bool
  | [], [] => some false
  | [], .int _ :: r => (lexD [] r).map fun _ => true
  | .int _ :: r, [] => (lexD r []).map fun _ => false
  | .int i :: xs, .int j :: ys => (lexD xs ys).map fun b => if i = j then b else decide (i < j)
  | _, _ => none

def cmp2 (o : CO) (x y : D) (S : Store) : Option Bool :=
  match o, x, y with
  | .eq, x, y => eqD S x y
  | .ne, x, y => (eqD S x y).map fun b => !b
  | .lt, .int i, .int j => some (decide (i < j))
  | .le, .int i, .int j => some (decide (i ≤ j))
  | .gt, .int i, .int j => some (decide (j < i))
  | .ge, .int i, .int j => some (decide (j ≤ i))
  | .lt, .tup a, .tup b => lexD a b
  | .is, .bl a, .bl b => some (decide (a = b))
  | .isnot, .bl a, .bl b => some (!decide (a = b))
  | .is, x, .non => match x with | .exc .. => none | .non => some true | _ => some false
  | .isnot, x, .non => match x with | .exc .. => none | .non => some false | _ => some true
  | .in_, x, .tup ds => if flatD x && ds.all flatD then some (inF x ds) else none
  | .notin, x, .tup ds => if flatD x && ds.all flatD then some !(inF x ds) else none
  | .in_, x, .ref n => match S[n]? with
    | some (.lst ds) => if flatD x && ds.all flatD then some (inF x ds) else inN S x ds
    | some (.ro ds) => if flatD x && ds.all flatD then some (inF x ds) else none
    | some (.dct kvs) => (keyI x).map fun k => (dGet kvs k).isSome
    | _ => none
  | .notin, x, .ref n => match S[n]? with
    | some (.lst ds) => if flatD x && ds.all flatD then some !(inF x ds) else (inN S x ds).map fun b => !b
    | some (.ro ds) => if flatD x && ds.all flatD then some !(inF x ds) else none
    | some (.dct kvs) => (keyI x).map fun k => !(dGet kvs k).isSome
    | _ => none
  | _, _, _ => none
def cmpR (o : CO) (x y : D) (S : Store) : R D := match cmp2 o x y S with
  | some b => .ok (.bl b) S
  | none => .bad

/-- xs[i] -/
def atD (ds : List D) (i : Int) : Option D := L2.atI ds i
def ix2 (x y : D) (S : Store) : R D :=
  match x, y with
  | .tup ds, .int i => match L2.atI ds i with | some d => .ok d S | none => .bad
  | .ref n, .int i => match S[n]? with
    | some (.lst ds) => match L2.atI ds i with | some d => .ok d S | none => .bad
    | some (.ro ds) => match L2.atI ds i with | some d => .ok d S | none => .bad
    | _ => .bad
  | .ref n, .tup ks => match S[n]? with
    | some (.dct kvs) => match intsD ks with
      | some k => match dGet kvs k with | some d => .ok d S | none => .bad
      | none => .bad
    | _ => .bad
  | .ref n, .str z => match S[n]? with
    | some (.dk kvs) => match kGet kvs (.inr z) with | some d => .ok d S | none => .bad
    | _ => .bad
  | .str z, .int i => if z.length ≤ linesz then match L2.atI z.cps.toList i with | some c => .ok (.str ⟨#[c]⟩) S | none => .bad else .bad
  | _, _ => .bad
def cutD (xs : List D) (lo hi : Option Int) : List D := (xs.drop (HT.sIx xs.length 0 lo)).take (HT.sIx xs.length xs.length hi - HT.sIx xs.length 0 lo)
def slc2 (x : D) (lo hi : Option Int) (S : Store) : R D :=
  match x with
  | .str z => if z.length ≤ linesz then .ok (.str (Txt.slice z lo hi)) S else .bad
  | .tup ds => .ok (.tup (cutD ds lo hi)) S
  | .ref n => match S[n]? with
    | some (.lst ds) => .ok (.ref S.length) (S ++ [.lst (cutD ds lo hi)])
    | some (.ro ds) => .ok (.ref S.length) (S ++ [.lst (cutD ds lo hi)])
    | _ => .bad
  | _ => .bad

def blsD : List D → Option (List Bool)
  | [] => some []
  | .bl b :: r => (blsD r).map fun bs => b :: bs
  | _ :: _ => none

/-- how many a dict holds -/
def dctN (S : Store) : D → Option Nat
  | .ref n => match S[n]? with
    | some (.dct kvs) => some kvs.length
    | _ => none
  | _ => none
/-- pairs of whole numbers -/
abbrev prD (p : Int × Int) : D := .tup [.int p.1, .int p.2]
def prsD : List D → Option (List (Int × Int))
  | [] => some []
  | .tup [.int i, .int j] :: r => (prsD r).map fun ps => (i, j) :: ps
  | _ :: _ => none
def prsK : List (List Int) → Option (List (Int × Int))
  | [] => some []
  | [i, j] :: r => (prsK r).map fun ps => (i, j) :: ps
  | _ :: _ => none
/-- a dict's keys, if all are pairs -/
def dctPs (S : Store) (n : Nat) : Option (List (Int × Int)) := match S[n]? with
  | some (.dct kvs) => prsK (kvs.map (·.1))
  | _ => none
def biD (f : Bi) (ds : List D) (S : Store) : R D :=
  match f, ds with
  | .len, [.str x] => if x.length ≤ linesz then .ok (.int x.length) S else .bad
  | .len, [x] => match seqD S x with | some xs => .ok (.int xs.length) S | none => match dctN S x with | some k => .ok (.int (k : Nat)) S | none => .bad
  | .sorted, [.ref n] => match (seqD S (.ref n)).bind prsD with | some ps => .ok (.ref S.length) (S ++ [.lst ((srtP ps).map prD)]) | none => match dctPs S n with | some ps => .ok (.ref S.length) (S ++ [.lst ((srtP ps).map prD)]) | none => .bad
  | .abs, [.int i] => .ok (.int (if i < 0 then -i else i)) S
  | .min2, [.int i, .int j] => .ok (.int (if j < i then j else i)) S
  | .max2, [.int i, .int j] => .ok (.int (if j > i then j else i)) S
  | .min3, [.int i, .int j, .int k] => .ok (.int (if k < (if j < i then j else i) then k else if j < i then j else i)) S
  | .max3, [.int i, .int j, .int k] => .ok (.int (if (if i < j then j else i) < k then k else if i < j then j else i)) S
  | .int, [.int i] => .ok (.int i) S
  | .int, [.bl b] => .ok (.int (if b then 1 else 0)) S
  | .str, [.int i] => if i.natAbs.log2 < 1920 then .ok (.str (toString i)) S else .bad
  | .tuple, [x] => match seqD S x with | some xs => .ok (.tup xs) S | none => .bad
  | .list, [x] => match seqD S x with | some xs => .ok (.ref S.length) (S ++ [.lst xs]) | none => .bad
  | .any, [.ref n] => match (seqD S (.ref n)).bind blsD with | some bs => .ok (.bl (bs.any id)) S | none => .bad
  | .all, [.ref n] => match (seqD S (.ref n)).bind blsD with | some bs => .ok (.bl (bs.all id)) S | none => .bad
  | .sum, [.ref n] => match (seqD S (.ref n)).bind intsD with | some bs => .ok (.int bs.sum) S | none => .bad
  | _, _ => .bad

def meD (m : Me) (o : D) (ds : List D) (S : Store) : R D :=
  match m, o, ds with
  | .append, .ref n, [d] => match S[n]? with
    | some (.lst xs) => if xs.length < linesz then .ok .non (S.set n (.lst (xs ++ [d]))) else .bad
    | _ => .bad
  | .insert, .ref n, [.int i, d] => match S[n]? with
    | some (.lst xs) => if xs.length < linesz ∧ 0 ≤ i ∧ i < 9223372036854775808 then .ok .non (S.set n (.lst (xs.take i.toNat ++ [d] ++ xs.drop i.toNat))) else .bad
    | _ => .bad
  | .get1, .ref n, [x] => match S[n]? with
    | some (.dct kvs) => match keyI x with | some k => .ok ((dGet kvs k).getD .non) S | none => .bad
    | _ => .bad
  | .get2, .ref n, [x, d] => match S[n]? with
    | some (.dct kvs) => match keyI x with | some k => .ok ((dGet kvs k).getD d) S | none => .bad
    | _ => .bad
  | .pop, .ref n, [x] => match S[n]? with
    | some (.dct kvs) => match keyI x with
      | some k => match dGet kvs k with | some d => .ok d (S.set n (.dct (dDel kvs k))) | none => .bad
      | none => .bad
    | _ => .bad
  | .index, .ref n, [d] => match S[n]? with
    | some (.lst xs) => match indexN S d xs with | some j => .ok (.int j) S | none => .bad
    | _ => .bad
  | _, _, _ => .bad

/-- the receiver is of the method's type -/
def meOk (m : Me) (o : D) (S : Store) : Bool := match m, o with
  | .append, .ref n => match S[n]? with
    | some (.lst _) => true
    | _ => false
  | .index, .ref n => match S[n]? with
    | some (.lst _) => true
    | _ => false
  | .insert, .ref n => match S[n]? with
    | some (.lst _) => true
    | _ => false
  | .get1, .ref n => match S[n]? with
    | some (.dct _) => true
    | _ => false
  | .get2, .ref n => match S[n]? with
    | some (.dct _) => true
    | _ => false
  | .pop, .ref n => match S[n]? with
    | some (.dct _) => true
    | _ => false
  | _, _ => false
/-- the attributes of an instance of the class c -/
def insOf (S : Store) (c : Str) : D → Option (List (Str × D))
  | .ref n => match S[n]? with
    | some (.ins x fs) => if x = c then some fs else none
    | _ => none
  | _ => none
def fldR (c f : Str) (x : D) (S : Store) : R D := match insOf S c x with
  | some fs => match fs.lookup f with | some d => .ok d S | none => .bad
  | none => .bad
/-- an instance of c that has not its own m -/
def mthOk (S : Store) (c m : Str) (x : D) : Bool := match insOf S c x with
  | some fs => (fs.lookup m).isNone
  | none => false
def putD (f : Str) (v : D) : List (Str × D) → List (Str × D)
  | [] => [(f, v)]
  | (g, x) :: r => if g = f then (g, v) :: r else (g, x) :: putD f v r
def isTy (S : Store) (t : Ty) : D → Option Bool
  | .non => some false
  | .bl _ => some (t == .bool || t == .int)
  | .int _ => some (t == .int)
  | .str _ => some (t == .str)
  | .tup _ => some (t == .tuple)
  | .ref n => match S[n]? with
    | some (.lst _) => some (t == .list)
    | some (.ro _) => some (t == .list)
    | some (.dct _) => some (t == .dict)
    | some (.dk _) => some (t == .dict)
    | _ => none
  | .exc .. => none
def isTys (S : Store) (x : D) : List Ty → Option Bool
  | [] => some false
  | t :: ts => match isTy S t x, isTys S x ts with
    | some a, some b => some (a || b)
    | _, _ => none

/-! ### the evaluator -/
/-- what a loop walks: its items, and the cell that must stay as it is -/
structure It where
  ds : List D
  lk : Option (Nat × Cell)
def ckS (lk : Option (Nat × Cell)) (S : Store) : Bool := match lk with
  | none => true
  | some (n, c) => decide (S[n]? = some c)
def wipeE (ρ : Env) : List Nat → Env
  | [] => ρ
  | v :: vs => (wipeE ρ vs).set v none
/-- a target of names -/
def asgT : E → D → Env → Option Env
  | .var i, d, ρ => some (ρ.set i (some d))
  | .tup ts, .tup ds, ρ => asgTs ts ds ρ
  | _, _, _ => none
where asgTs : E → List D → Env → Option Env
  | .nil, [], ρ => some ρ
  | .cons (.var i) ts, d :: ds, ρ => asgTs ts ds (ρ.set i (some d))
  | _, _, _ => none

def lcL (n : Nat) (ck : Store → Bool) (f : D → Store → R (Option D)) : List D → Store → R Unit
  | [], S => bif ck S then .ok () S else .bad
  | x :: xs, S => bif ck S then (match f x S with
    | .ok none S' => lcL n ck f xs S'
    | .ok (some d) S' => match S'[n]? with
      | some (.lst acc) => if acc.length < linesz then lcL n ck f xs (S'.set n (.lst (acc ++ [d]))) else .bad
      | _ => .bad
    | _ => .bad) else .bad
def rngD (lo : Int) (n : Nat) : List D := (List.range n).map fun (i : Nat) => D.int (lo + i)
def kddR (n : Nat) (ks : List Str) (ds : List D) (S : Store) : R D := match S[n]? with
  | some (.dk []) => if ks.length = ds.length ∧ ks.Nodup ∧ ks.length ≤ 15 then .ok (.ref n) (S.set n (.dk ((ks.map Sum.inr).zip ds))) else .bad
  | _ => .bad
/-- xs.pop() -/
def pop0R (x : D) (S : Store) : R D := match x with
  | .ref n => match S[n]? with
    | some (.lst xs) => match xs[xs.length - 1]? with | some d => .ok d (S.set n (.lst xs.dropLast)) | none => .bad
    | _ => .bad
  | _ => .bad
/-- an expression while a dict is walked -/
def lkR (r : R D) (f : Store → R D) (S : Store) : R D := match r with
  | .ok (.ref n) _ => match S[n]? with
    | some (.dct kvs) => match f (S.set n (.hid kvs)) with
      | .ok d S2 => if S2[n]? = some (.hid kvs) then .ok d (S2.set n (.dct kvs)) else .bad
      | _ => .bad
    | _ => .bad
  | _ => .bad
def itD (x : D) (S : Store) : R It :=
  match x with
  | .tup ds => .ok ⟨ds, none⟩ S
  | .ref n => match S[n]? with
    | some (.lst ds) => .ok ⟨ds, some (n, .lst ds)⟩ S
    | some (.ro ds) => .ok ⟨ds, some (n, .ro ds)⟩ S
    | some (.hid kvs) => .ok ⟨kvs.map fun p => .tup (p.1.map D.int), none⟩ S
    | _ => .bad
  | _ => .bad
/-- lo, lo - 1, .. (n of them) -/
def rngN (lo : Int) (n : Nat) : List D := (List.range n).map fun (i : Nat) => D.int (lo + (i : Nat) * (-1))
def rgD : List D → Option It
  | [.int n] => if -4611686018427387904 ≤ n ∧ n < 4611686018427387904 then some ⟨rngD 0 n.toNat, none⟩ else none
  | [.int a, .int b] => if -4611686018427387904 ≤ a ∧ a < 4611686018427387904 ∧ -4611686018427387904 ≤ b ∧ b < 4611686018427387904 then some ⟨rngD a (b - a).toNat, none⟩ else none
  | [.int a, .int b, .int c] => if c = -1 ∧ -4611686018427387904 ≤ a ∧ a < 4611686018427387904 ∧ -4611686018427387904 ≤ b ∧ b < 4611686018427387904 then some ⟨rngN a (a - b).toNat, none⟩ else none
  | _ => none

/-- what an expression means: as a value, a test, an argument list, a part of a slice, an iterable -/
structure Den where
  v : Env → Store → R D
  t : Env → Store → R Bool
  a : Env → Store → R (List D)
  o : Env → Store → R (Option Int)
  i : Env → Store → R It
  j : Str → Env → Store → R Str
def truR (x : D) (S : Store) : R Bool := match truD S x with | some b => .ok b S | none => .bad
def cmpT (o : CO) (x y : D) (S : Store) : R Bool := match cmp2 o x y S with | some t => .ok t S | none => .bad
def optR (x : D) (S : Store) : R (Option Int) := match x with | .int i => .ok (some i) S | _ => .bad
def ofVT (v : Env → Store → R D) (t : Env → Store → R Bool) : Den where
  v := v
  t := t
  a := fun _ _ => .bad
  o := fun ρ S => (v ρ S).bind optR
  i := fun ρ S => (v ρ S).bind itD
  j := fun _ _ _ => .bad
def ofV (v : Env → Store → R D) : Den := ofVT v fun ρ S => (v ρ S).bind truR
def ofA (a : Env → Store → R (List D)) (o : Env → Store → R (Option Int)) : Den where
  v := fun _ _ => .bad
  t := fun _ _ => .bad
  a := a
  o := o
  i := fun _ _ => .bad
  j := fun _ _ _ => .bad
def varR (i : Nat) (ρ : Env) (S : Store) : R D := match ρ[i]? with | some (some d) => .ok d S | _ => .bad
def negR (x : D) (S : Store) : R D := match x with | .int i => .ok (.int (-i)) S | _ => .bad
def andR (k : Store → R D) (x : D) (S : Store) : R D := match truD S x with
  | some true => k S
  | some false => .ok x S
  | none => .bad
def orR (k : Store → R D) (x : D) (S : Store) : R D := match truD S x with
  | some true => .ok x S
  | some false => k S
  | none => .bad
def tupR (ds : List D) (S : Store) : R D := if ds.length ≤ linesz then .ok (.tup ds) S else .bad
def lstR (ds : List D) (S : Store) : R D := if ds.length ≤ linesz then .ok (.ref S.length) (S ++ [.lst ds]) else .bad
def isiR (ts : List Ty) (x : D) (S : Store) : R D := match isTys S x ts with | some b => .ok (.bl b) S | none => .bad
def rngR (ds : List D) (S : Store) : R It := match rgD ds with | some it => .ok it S | none => .bad
/-- zip of two tuples, of a list and a tuple -/
def zipD (xs ys : List D) : List D := (xs.zip ys).map fun p => .tup [p.1, p.2]
def zipR (ds : List D) (S : Store) : R It := match ds with
  | [.tup xs, .tup ys] => .ok ⟨zipD xs ys, none⟩ S
  | [.ref n, .tup ys] => match S[n]? with
    | some (.lst xs) => .ok ⟨zipD xs ys, some (n, .lst xs)⟩ S
    | _ => .bad
  | _ => .bad
/-- enumerate of a tuple, of a list -/
def enD : Nat → List D → List D
  | _, [] => []
  | k, d :: ds => .tup [.int k, d] :: enD (k + 1) ds
def enmR (ds : List D) (S : Store) : R It := match ds with
  | [.tup xs] => .ok ⟨enD 0 xs, none⟩ S
  | [.ref n] => match S[n]? with
    | some (.lst xs) => .ok ⟨enD 0 xs, some (n, .lst xs)⟩ S
    | _ => .bad
  | _ => .bad
def isS : D → Bool
  | .str _ => true
  | _ => false
def strsD : List D → Option (List Str)
  | [] => some []
  | .str x :: r => (strsD r).map fun xs => x :: xs
  | _ :: _ => none
/-- a part of an f-string -/
def fmtR (x : D) (S : Store) : R D := match x with
  | .str y => if y.length ≤ linesz then .ok (.str y) S else .bad
  | .int i => if i.natAbs.log2 < 1920 then .ok (.str (toString i)) S else .bad
  | _ => .bad
def catJ (acc : Str) (x : D) (S : Store) (k : Str → Store → R Str) : R Str := match x with
  | .str y => if (acc ++ y).length ≤ linesz then k (acc ++ y) S else .bad
  | _ => .bad
def smR (m : SM) (x y : D) (S : Store) : R D := match m, x, y with
  | .split, .str a, .str b => if (b.length == 0) = false ∧ a.length + 2 ≤ linesz then .ok (.ref S.length) (S ++ [.lst ((Txt.split a b).map D.str)]) else .bad
  | .startswith, .str a, .str b => .ok (.bl (Txt.startswith a b)) S
  | .join, .str a, .ref n => match (seqD S (.ref n)).bind strsD with
    | some ys => if (ys.map (·.length)).sum + ys.length * a.length ≤ 16777216 then .ok (.str (Txt.join a ys)) S else .bad
    | none => .bad
  | _, _, _ => .bad
def sm0R (m : SM) (x : D) (S : Store) : R D := match m, x with
  | .upper, .str a => if a.length ≤ 5592405 then .ok (.str (Txt.upper a)) S else .bad
  | _, _ => .bad
/-- an item of a dict of the top, by a text -/
def gdxR (kvs : List (Str × D)) (x : D) (S : Store) : R D := match x with
  | .str z => match kvs.lookup z with
    | some d => .ok d S
    | none => .bad
  | _ => .bad
/-- an item of a dict of the top, by a number -/
def gixR (kvs : List (Int × D)) (x : D) (S : Store) : R D := match x with
  | .int z => match kvs.lookup z with
    | some d => .ok d S
    | none => .bad
  | _ => .bad
/-- a text in a dict of the top -/
def gdinR (kvs : List (Str × D)) (neg : Bool) (x : D) (S : Store) : R D := match x with
  | .str z => .ok (.bl (if neg then !(kvs.lookup z).isSome else (kvs.lookup z).isSome)) S
  | _ => .bad
def gdinT (kvs : List (Str × D)) (neg : Bool) (x : D) (S : Store) : R Bool := match x with
  | .str z => .ok (if neg then !(kvs.lookup z).isSome else (kvs.lookup z).isSome) S
  | _ => .bad
/-- x.bit_length() -/
def blnR (x : D) (S : Store) : R D := match x with | .int i => .ok (.int ((Builtin.Int.intBits i : Nat) : Int)) S | _ => .bad
/-- list(reversed(x)) -/
def lrvR (x : D) (S : Store) : R D := match x with
  | .ref n => match S[n]? with
    | some (.lst ds) => .ok (.ref S.length) (S ++ [.lst ds.reverse])
    | _ => .bad
  | _ => .bad
def chainV (o1 o2 : CO) (c : Store → R D) (x y : D) (S : Store) : R D := match cmp2 o1 x y S with
  | some true => (c S).bind fun z S3 => cmpR o2 y z S3
  | some false => .ok (.bl false) S
  | none => .bad
def chainT (o1 o2 : CO) (c : Store → R D) (x y : D) (S : Store) : R Bool := match cmp2 o1 x y S with
  | some true => (c S).bind fun z S3 => cmpT o2 y z S3
  | some false => .ok false S
  | none => .bad
def lcF (own : List Nat) (tg : E) (cond : Env → Store → R Bool) (elt : Env → Store → R D) (ρ : Env) (x : D) (S : Store) : R (Option D) :=
  match asgT tg x (wipeE ρ own) with
  | none => .bad
  | some ρ2 => (cond ρ2 S).bind fun b S2 => bif b then (elt ρ2 S2).bind fun d S3 => .ok (some d) S3 else .ok none S2
def lcR (own : List Nat) (tg : E) (cond : Env → Store → R Bool) (elt : Env → Store → R D) (ρ : Env) (it : It) (S : Store) : R D :=
  (lcL S.length (ckS it.lk) (lcF own tg cond elt ρ) it.ds (S ++ [.lst []])).bind fun _ S4 => .ok (.ref S.length) S4

/-- the turns of the second clause -/
def lc2F (n : Nat) (own2 : List Nat) (tg2 : E) (src2 : Env → Store → R It) (elt : Env → Store → R D) (ρ2 : Env) (S : Store) : R Unit :=
  (src2 ρ2 S).bind fun it S1 => lcL n (ckS it.lk) (lcF own2 tg2 (fun _ S => .ok true S) elt ρ2) it.ds S1
def thenU (r : R Unit) (k : Store → R Unit) : R Unit := match r with
  | .ok _ S' => k S'
  | _ => .bad
def lc2L (ck : Store → Bool) (f : D → Store → R Unit) : List D → Store → R Unit
  | [], S => bif ck S then .ok () S else .bad
  | x :: xs, S => bif ck S then thenU (f x S) (lc2L ck f xs) else .bad
def lc2G (n : Nat) (own own2 : List Nat) (tg tg2 : E) (src2 : Env → Store → R It) (elt : Env → Store → R D) (ρ : Env) (x : D) (S' : Store) : R Unit :=
  match asgT tg x (wipeE ρ own) with
  | some ρ2 => lc2F n own2 tg2 src2 elt ρ2 S'
  | none => .bad
def lc2R (own own2 : List Nat) (tg tg2 : E) (src2 : Env → Store → R It) (elt : Env → Store → R D) (ρ : Env) (it : It) (S : Store) : R D :=
  (lc2L (ckS it.lk) (lc2G S.length own own2 tg tg2 src2 elt ρ) it.ds (S ++ [.lst []])).bind fun _ S4 => .ok (.ref S.length) S4

/-- the number at which a suite's oracle is asked for the exception that is handled -/
def hotq : Nat := 1000000
/-- the oracle of an except suite: which exception is handled -/
def hotP (c a : Nat) : Nat → List D → Store → R D := fun f ds S => if f = hotq then (match ds with
  | [.exc c' a'] => if c' = c ∧ a' = a then .ok .non S else .bad
  | _ => .bad) else .bad
def isxR (P : Nat → List D → Store → R D) (tbl : List Bool) (x : D) (S : Store) : R D := match x with
  | .exc c a => (P hotq [.exc c a] S).bind fun _ S1 => match tbl[c]? with
    | some b => .ok (.bl b) S1
    | none => .bad
  | _ => .bad
section
variable (P : Nat → List D → Store → R D)
def den : E → Den
  | .var i => ofV (varR i)
  | .non => ofV fun _ S => .ok .non S
  | .bl b => ofV fun _ S => .ok (.bl b) S
  | .int i => ofV fun _ S => .ok (.int i) S
  | .str x => ofV fun _ S => .ok (.str x) S
  | .glb _ d => ofV fun _ S => .ok d S
  | .bin o a b => ofV fun ρ S => ((den a).v ρ S).bind fun x S1 => ((den b).v ρ S1).bind fun y S2 => bin2 o x y S2
  | .neg a => ofV fun ρ S => ((den a).v ρ S).bind negR
  | .cmp o a b => ofVT (fun ρ S => ((den a).v ρ S).bind fun x S1 => ((den b).v ρ S1).bind fun y S2 => cmpR o x y S2)
      (fun ρ S => ((den a).v ρ S).bind fun x S1 => ((den b).v ρ S1).bind fun y S2 => cmpT o x y S2)
  | .chain o1 o2 a b c => ofVT (fun ρ S => ((den a).v ρ S).bind fun x S1 => ((den b).v ρ S1).bind fun y S2 => chainV o1 o2 ((den c).v ρ) x y S2)
      (fun ρ S => ((den a).v ρ S).bind fun x S1 => ((den b).v ρ S1).bind fun y S2 => chainT o1 o2 ((den c).v ρ) x y S2)
  | .not a => ofVT (fun ρ S => ((den a).v ρ S).bind fun x S1 => (truR x S1).bind fun b S2 => .ok (.bl (!b)) S2) (fun ρ S => ((den a).t ρ S).bind fun b S1 => .ok (!b) S1)
  | .and a b => ofVT (fun ρ S => ((den a).v ρ S).bind fun x S1 => andR ((den b).v ρ) x S1) (fun ρ S => ((den a).t ρ S).bind fun t S1 => bif t then (den b).t ρ S1 else .ok false S1)
  | .or a b => ofVT (fun ρ S => ((den a).v ρ S).bind fun x S1 => orR ((den b).v ρ) x S1) (fun ρ S => ((den a).t ρ S).bind fun t S1 => bif t then .ok true S1 else (den b).t ρ S1)
  | .ite c a b => ofVT (fun ρ S => ((den c).t ρ S).bind fun t S1 => bif t then (den a).v ρ S1 else (den b).v ρ S1) (fun _ _ => .bad)
  | .tup as => ofV fun ρ S => ((den as).a ρ S).bind tupR
  | .lst as => ofV fun ρ S => ((den as).a ρ S).bind lstR
  | .nil => { ofA (fun _ S => .ok [] S) (fun _ S => .ok none S) with j := fun acc _ S => .ok acc S }
  | .cons a as => { ofA (fun ρ S => ((den a).v ρ S).bind fun x S1 => ((den as).a ρ S1).bind fun xs S2 => .ok (x :: xs) S2) (fun _ _ => .bad) with j := fun acc ρ S => ((den a).v ρ S).bind fun x S1 => catJ acc x S1 fun acc' => (den as).j acc' ρ }
  | .ix a b => ofV fun ρ S => ((den a).v ρ S).bind fun x S1 => ((den b).v ρ S1).bind fun y S2 => ix2 x y S2
  | .slc a lo hi => ofV fun ρ S => ((den a).v ρ S).bind fun x S1 => ((den lo).o ρ S1).bind fun l S2 => ((den hi).o ρ S2).bind fun h S3 => slc2 x l h S3
  | .call f as => ofV fun ρ S => ((den as).a ρ S).bind fun ds S1 => P f ds S1
  | .bi f as => ofV fun ρ S => ((den as).a ρ S).bind fun ds S1 => biD f ds S1
  | .me m o as => ofV fun ρ S => ((den o).v ρ S).bind fun x S1 => bif meOk m x S1 then ((den as).a ρ S1).bind fun ds S2 => meD m x ds S2 else .bad
  | .isi a ts _ => ofV fun ρ S => ((den a).v ρ S).bind fun x S1 => isiR ts x S1
  | .isx a _ tbl => ofV fun ρ S => ((den a).v ρ S).bind fun x S1 => isxR P tbl x S1
  | .rng as => { ofA (fun _ _ => .bad) (fun _ _ => .bad) with i := fun ρ S => ((den as).a ρ S).bind rngR }
  | .enm as => { ofA (fun _ _ => .bad) (fun _ _ => .bad) with i := fun ρ S => ((den as).a ρ S).bind enmR }
  | .zp as => { ofA (fun _ _ => .bad) (fun _ _ => .bad) with i := fun ρ S => ((den as).a ρ S).bind zipR }
  | .fjs as => ofV fun ρ S => ((den as).j Str.empty ρ S).bind fun y S1 => .ok (.str y) S1
  | .fmt a => ofV fun ρ S => ((den a).v ρ S).bind fmtR
  | .sm m o a => ofV fun ρ S => ((den o).v ρ S).bind fun x S1 => bif isS x then ((den a).v ρ S1).bind fun y S2 => smR m x y S2 else .bad
  | .sm0 m o => ofV fun ρ S => ((den o).v ρ S).bind (sm0R m)
  | .dd0 => ofV fun _ S => .ok (.ref S.length) (S ++ [.dct []])
  | .dd1 k v => ofV fun ρ S => ((den k).v ρ (S ++ [.dct []])).bind fun x S1 => ((den v).v ρ S1).bind fun y S2 => ddR S.length [(x, y)] S2
  | .dd2 k v k2 v2 => ofV fun ρ S => ((den k).v ρ (S ++ [.dct []])).bind fun x S1 => ((den v).v ρ S1).bind fun y S2 => ((den k2).v ρ S2).bind fun x2 S3 => ((den v2).v ρ S3).bind fun y2 S4 => ddR S.length [(x, y), (x2, y2)] S4
  | .kdd ks vs => ofV fun ρ S => ((den vs).a ρ (S ++ [.dk []])).bind fun ds S1 => kddR S.length ks ds S1
  | .pop0 o => ofV fun ρ S => ((den o).v ρ S).bind pop0R
  | .lk o e => ofV fun ρ S => lkR ((den o).v ρ S) ((den e).v ρ) S
  | .gix _ kvs a => ofV fun ρ S => ((den a).v ρ S).bind (gixR kvs)
  | .gdx _ kvs a => ofV fun ρ S => ((den a).v ρ S).bind (gdxR kvs)
  | .gdin _ kvs neg a => ofVT (fun ρ S => ((den a).v ρ S).bind (gdinR kvs neg)) (fun ρ S => ((den a).v ρ S).bind (gdinT kvs neg))
  | .bln a => ofV fun ρ S => ((den a).v ρ S).bind blnR
  | .lrv a => ofV fun ρ S => ((den a).v ρ S).bind lrvR
  | .itm _ => ofA (fun _ _ => .bad) (fun _ _ => .bad)
  | .fld c f o => ofV fun ρ S => ((den o).v ρ S).bind (fldR c f)
  | .mth f c m o as => ofV fun ρ S => ((den o).v ρ S).bind fun x S1 => bif mthOk S1 c m x then ((den as).a ρ S1).bind fun ds S2 => P f (x :: ds) S2 else .bad
  | .lc2 own own2 tg src tg2 src2 elt => ofV fun ρ S => ((den src).i ρ S).bind fun it S1 => lc2R own own2 tg tg2 (den src2).i (den elt).v ρ it S1
  | .lc own tg src cond elt => ofV fun ρ S => ((den src).i ρ S).bind fun it S1 => lcR own tg (den cond).t (den elt).v ρ it S1
def ev (e : E) (ρ : Env) (S : Store) : R D := (den P e).v ρ S
def tst (e : E) (ρ : Env) (S : Store) : R Bool := (den P e).t ρ S
def evs (e : E) (ρ : Env) (S : Store) : R (List D) := (den P e).a ρ S
def evo (e : E) (ρ : Env) (S : Store) : R (Option Int) := (den P e).o ρ S
def itr (e : E) (ρ : Env) (S : Store) : R It := (den P e).i ρ S
def evj (e : E) (acc : Str) (ρ : Env) (S : Store) : R Str := (den P e).j acc ρ S
end

/-! ### statements -/
/-- statements -/
inductive C where
  | skip | seq (a b : C) | ex (e : E) | asg (tg e : E) | aug (i : Nat) (o : B2) (e : E) | ret (e : E) | retN
  | ite (c : E) (a b : C) | whl (n : Nat) (c : E) (b : C) | for (tg it : E) (b : C) | brk | cnt | pass
  | raise (c : Nat) | asg2 (i j : Nat) (e : E) | any
  | fst (c f : Str) (o e : E) | ist (o i e : E) | del (o i : E) | fst2 (c f g : Str) (o e : E)
  | dsp (i : Nat) (x : Str) (tbl : List (Str × Str × Nat)) (e as : E)
  | tryAs (body : C) (y : Str) (tbl : List Bool) (i : Nat) (suite : C)
  | tryOn (body : C) (y : Str) (tbl : List Bool) (suite : C)
def O.seq (o : O) (k : Env → Store → O) : O := match o with
  | .nx ρ S => k ρ S
  | o => o
def forL (ck : Store → Bool) (f : D → Env → Store → O) : List D → Env → Store → O
  | [], ρ, S => bif ck S then .nx ρ S else .bad
  | x :: xs, ρ, S => bif ck S then (match f x ρ S with
    | .nx ρ' S' => forL ck f xs ρ' S'
    | .ct ρ' S' => forL ck f xs ρ' S'
    | .bk ρ' S' => .nx ρ' S'
    | o => o) else .bad
def whlL (t : Env → Store → R Bool) (f : Env → Store → O) : Nat → Env → Store → O
  | 0, _, _ => .bad
  | n + 1, ρ, S => O.of ρ (t ρ S) fun b S1 => bif b then (match f ρ S1 with
    | .nx ρ' S' => whlL t f n ρ' S'
    | .ct ρ' S' => whlL t f n ρ' S'
    | .bk ρ' S' => .nx ρ' S'
    | o => o) else .nx ρ S1
/-- a store through a target -/
def asgO (tg : E) (d : D) (ρ : Env) (S : Store) : O := match asgT tg d ρ with
  | some ρ' => .nx ρ' S
  | none => .bad
/-- name op= e: of ints, or of texts with + -/
def augB (o : B2) (x y : D) (S : Store) : R D := match o, x, y with
  | .add, .int i, .int j => .ok (.int (i + j)) S
  | .add, .str a, .str b => if a.length + b.length ≤ linesz then .ok (.str (a ++ b)) S else .bad
  | .sub, .int i, .int j => .ok (.int (i - j)) S
  | _, _, _ => .bad
/-- o.f = d -/
def fstO (c f : Str) (d x : D) (ρ : Env) (S : Store) : O := match x with
  | .ref n => match insOf S c (.ref n) with
    | some fs => if fs.length < 1000 then .nx ρ (S.set n (.ins c (putD f d fs))) else .bad
    | none => .bad
  | _ => .bad
/-- o[i] = d -/
def istO (d x i : D) (ρ : Env) (S : Store) : O := match x, i with
  | .ref n, .int k => match S[n]? with
    | some (.lst xs) => match L2.ixN xs.length k with | some j => .nx ρ (S.set n (.lst (xs.set j d))) | none => .bad
    | _ => .bad
  | .ref n, .tup ks => match S[n]? with
    | some (.dct kvs) => match intsD ks with
      | some k => if kvs.length < linesz then .nx ρ (S.set n (.dct (dPut kvs k d))) else .bad
      | none => .bad
    | _ => .bad
  | .ref n, .str z => match S[n]? with
    | some (.dk kvs) => if kvs.length < linesz then .nx ρ (S.set n (.dk (kPut kvs (.inr z) d))) else .bad
    | _ => .bad
  | _, _ => .bad
/-- del o[i] -/
def delO (x i : D) (ρ : Env) (S : Store) : O := match x, i with
  | .ref n, .tup ks => match S[n]? with
    | some (.dct kvs) => match intsD ks with
      | some k => if (dGet kvs k).isSome = true then .nx ρ (S.set n (.dct (dDel kvs k))) else .bad
      | none => .bad
    | _ => .bad
  | _, _ => .bad
/-- o.f, o.g = d -/
def fst2O (c f g : Str) (o : Env → Store → R D) (d : D) (ρ : Env) (S : Store) : O := match d with
  | .tup [a, b] => O.of ρ (o ρ S) fun x S1 => match fstO c f a x ρ S1 with
    | .nx ρ2 S2 => O.of ρ2 (o ρ2 S2) fun y S3 => fstO c g b y ρ2 S3
    | _ => .bad
  | _ => .bad
def O.unset (i : Nat) : O → O
  | .nx ρ S => .nx (ρ.set i none) S
  | .bk ρ S => .bk (ρ.set i none) S
  | .ct ρ S => .ct (ρ.set i none) S
  | .ret d S => .ret d S
  | _ => .bad
def O.noexc : O → O
  | .exc .. => .bad
  | o => o
/-- a suite's outcome, wherever the exception lies -/
noncomputable def suiteO (f : Nat → O) : O := open Classical in if (∀ a, f a = f 0) then f 0 else .bad
def catchO (o : O) (tbl : List Bool) (k : Nat → Env → Store → O) : O := match o with
  | .exc c fs ρ S => (match tbl[c]?, fs with
    | some true, [] => k c ρ S
    | some false, fs => .exc c fs ρ S
    | _, _ => .bad)
  | o => o
/-- a def of a dict of the top, by a text -/
def dspO (tbl : List (Str × Str × Nat)) (d : D) (k : Nat → O) : O := match d with
  | .str z => match tbl.lookup z with
    | some p => k p.2
    | none => .bad
  | _ => .bad
noncomputable def run (P : Nat → List D → Store → R D) : C → Env → Store → O
  | .skip, ρ, S => .nx ρ S
  | .pass, ρ, S => .nx ρ S
  | .seq a b, ρ, S => (run P a ρ S).seq (run P b)
  | .ex e, ρ, S => O.of ρ (ev P e ρ S) fun _ S1 => .nx ρ S1
  | .asg tg e, ρ, S => O.of ρ (ev P e ρ S) fun d S1 => asgO tg d ρ S1
  | .any, _, _ => .bad
  | .asg2 i j e, ρ, S => O.of ρ (ev P e ρ S) fun d S1 => .nx ((ρ.set i (some d)).set j (some d)) S1
  | .aug i o e, ρ, S => match ρ[i]? with
    | some (some x) => O.of ρ (ev P e ρ S) fun d S1 => O.of ρ (augB o x d S1) fun z S2 => .nx (ρ.set i (some z)) S2
    | _ => .bad
  | .ret e, ρ, S => O.of ρ (ev P e ρ S) fun d S1 => .ret d S1
  | .retN, _, S => .ret .non S
  | .ite c a b, ρ, S => O.of ρ (tst P c ρ S) fun t S1 => bif t then run P a ρ S1 else run P b ρ S1
  | .whl n c b, ρ, S => whlL (tst P c) (run P b) n ρ S
  | .for tg it b, ρ, S => O.of ρ (itr P it ρ S) fun w S1 => forL (ckS w.lk) (fun x ρ S => (asgO tg x ρ S).seq (run P b)) w.ds ρ S1
  | .brk, ρ, S => .bk ρ S
  | .cnt, ρ, S => .ct ρ S
  | .raise c, ρ, S => .exc c [] ρ S
  | .fst c f o e, ρ, S => O.of ρ (ev P e ρ S) fun d S1 => O.of ρ (ev P o ρ S1) fun x S2 => fstO c f d x ρ S2
  | .ist o i e, ρ, S => O.of ρ (ev P e ρ S) fun d S1 => O.of ρ (ev P o ρ S1) fun x S2 => O.of ρ (ev P i ρ S2) fun j S3 => istO d x j ρ S3
  | .fst2 c f g o e, ρ, S => O.of ρ (ev P e ρ S) fun d S1 => fst2O c f g (ev P o) d ρ S1
  | .del o i, ρ, S => O.of ρ (ev P o ρ S) fun x S1 => O.of ρ (ev P i ρ S1) fun j S2 => delO x j ρ S2
  | .dsp i _ tbl e as, ρ, S => bif decide (i < ρ.length) then (O.of ρ (ev P e ρ S) fun d S1 => dspO tbl d fun f => O.of (ρ.set i none) (evs P as (ρ.set i none) S1) fun ds S2 => O.of (ρ.set i none) (P f ds S2) fun v S3 => .ret v S3) else .bad
  | .tryAs b _ tbl i s, ρ, S => catchO (run P b ρ S) tbl fun c ρ' S' => (suiteO fun a => run (hotP c a) s (ρ'.set i (some (.exc c a))) S').unset i
  | .tryOn b _ tbl s, ρ, S => catchO (run P b ρ S) tbl fun c ρ' S' => (suiteO fun a => run (hotP c a) s ρ' S').noexc

/-! ### defs -/
structure Fn where
  np : Nat
  nl : Nat
  body : C
  /-- a constructor: the class, the number of its __init__ -/
  ctor : Option (Str × Nat) := none
/-- C(..): a new instance, then __init__ -/
def mkR (c : Str) (Q : List D → Store → R D) (ds : List D) (S : Store) : R D :=
  (Q (.ref S.length :: ds) (S ++ [.ins c []])).bind fun v S2 => if v = .non then .ok (.ref S.length) S2 else .bad
mutual
/-- the cells that data name -/
def D.refs : D → List Nat
  | .tup ds => D.refsL ds
  | .ref n => [n]
  | _ => []
def D.refsL : List D → List Nat
  | [] => []
  | d :: ds => D.refs d ++ D.refsL ds
end
mutual
def D.ren (f : Nat → Nat) : D → D
  | .tup ds => .tup (D.renL f ds)
  | .ref n => .ref (f n)
  | d => d
def D.renL (f : Nat → Nat) : List D → List D
  | [] => []
  | d :: ds => D.ren f d :: D.renL f ds
end
def Cell.refs : Cell → List Nat
  | .lst ds => D.refsL ds
  | .ro ds => D.refsL ds
  | .dct kvs => D.refsL (kvs.map (·.2))
  | .dk kvs => D.refsL (kvs.map (·.2))
  | .hid kvs => D.refsL (kvs.map (·.2))
  | .ins _ fs => D.refsL (fs.map (·.2))
def Cell.ren (f : Nat → Nat) : Cell → Cell
  | .lst ds => .lst (D.renL f ds)
  | .ro ds => .ro (D.renL f ds)
  | .dct kvs => .dct ((kvs.map (·.1)).zip (D.renL f (kvs.map (·.2))))
  | .dk kvs => .dk ((kvs.map (·.1)).zip (D.renL f (kvs.map (·.2))))
  | .hid kvs => .hid ((kvs.map (·.1)).zip (D.renL f (kvs.map (·.2))))
  | .ins c fs => .ins c ((fs.map (·.1)).zip (D.renL f (fs.map (·.2))))
/-- the cells from n0 on that are met from a list of them: fuel turns -/
def reach (S : Store) (n0 : Nat) : Nat → List Nat → List Nat → List Nat
  | 0, _, acc => acc
  | _ + 1, [], acc => acc
  | k + 1, n :: r, acc => if n < n0 ∨ n ∈ acc then reach S n0 k r acc else
    match S[n]? with
    | some c => reach S n0 k (c.refs ++ r) (acc ++ [n])
    | none => reach S n0 k r acc
def renOf (n0 : Nat) (L : List Nat) (n : Nat) : Nat := if n < n0 then n else n0 + L.findIdx (· == n)
/-- the cells that the written elder cells name -/
def chg : Store → Store → List Nat
  | c :: S0, e :: S => (if c = e then [] else e.refs) ++ chg S0 S
  | _, _ => []
/-- the elder cells: the written ones renamed -/
def keepE (f : Nat → Nat) : Store → Store → Store
  | c :: S0, e :: S => (if c = e then e else e.ren f) :: keepE f S0 S
  | _, _ => []
/-- the cells L behind the elder ones, renamed -/
def keepS (S0 S : Store) (L : List Nat) : Store := keepE (renOf S0.length L) S0 S ++ L.filterMap fun n => (S[n]?).map (Cell.ren (renOf S0.length L))
def keepC (S0 S : Store) (rs L : List Nat) : Bool :=
  decide (S0.length ≤ S.length) && (L.flatMap fun n => match S[n]? with | some c => c.refs | none => []).all (fun n => decide (n < S0.length) || decide (n ∈ L)) && rs.all (fun n => decide (n < S0.length) || decide (n ∈ L)) && decide L.Nodup
    && L.all (fun n => decide (S0.length ≤ n)) && L.all (fun n => decide (n < S.length))
/-- behind a call: what the def made and nobody names is forgotten -/
def fin (S0 : Store) (d : D) (S : Store) : R D :=
  let rs := d.refs ++ chg S0 S
  let L := reach S S0.length 100000 rs []
  if keepC S0 S rs L then .ok (d.ren (renOf S0.length L)) (keepS S0 S L) else .ok d S
def finX (S0 S : Store) : Store :=
  let rs := chg S0 S
  let L := reach S S0.length 100000 rs []
  if keepC S0 S rs L then keepS S0 S L else S
def finO (S0 : Store) (o : O) : R D := match o with
  | .nx _ S => fin S0 .non S
  | .ret d S => fin S0 d S
  | .exc c fs _ S => .exc c fs (if fs.isEmpty then finX S0 S else S)
  | _ => .bad
/-- a call of the f-th def, k calls deep -/
noncomputable def callN (Fs : List Fn) : Nat → Nat → List D → Store → R D
  | 0, _, _, _ => .bad
  | k + 1, f, ds, S => match Fs[f]? with
    | some fn => match fn.ctor with
      | some (c, g) => mkR c (callN Fs k g) ds S
      | none => if ds.length = fn.np then finO S (run (callN Fs k) fn.body (ds.map some ++ List.replicate (fn.nl - ds.length) none) S) else .bad
    | none => .bad
end Ng

set_option Elab.async false
set_option linter.all false
set_option maxRecDepth 100000
set_option maxHeartbeats 2000000
/-! The engine's data and stores as they lie in the abstract heap. -/
namespace Ng
open PySem PySem.Spec PyProof.Rows L2

abbrev Mu := List Addr
mutual
inductive RepV (K : PySem.W.Frag) (H : Hp) (μ : Mu) : D → V → Prop
  | non : RepV K H μ .non .non
  | bl (b : Bool) : RepV K H μ (.bl b) (.bl b)
  | int (i : Int) : RepV K H μ (.int i) (.int i)
  | str (x : Str) : RepV K H μ (.str x) (.str x)
  | tup {a : Addr} {vs : List V} {ds : List D} : SqT K H a vs → RepVs K H μ ds vs → RepV K H μ (.tup ds) (.ref a)
  | ref {n : Nat} {a : Addr} : μ[n]? = some a → RepV K H μ (.ref n) (.ref a)
  | exc (c a : Nat) : RepV K H μ (.exc c a) (.ref a)
inductive RepVs (K : PySem.W.Frag) (H : Hp) (μ : Mu) : List D → List V → Prop
  | nil : RepVs K H μ [] []
  | cons {d : D} {v : V} {ds : List D} {vs : List V} : RepV K H μ d v → RepVs K H μ ds vs → RepVs K H μ (d :: ds) (v :: vs)
end

/-- what the later heap still knows -/
structure Le0 (K : PySem.W.Frag) (μ : Mu) (H : Hp) (μ' : Mu) (H' : Hp) : Prop where
  pre : ∃ t, μ' = μ ++ t
  tup : ∀ a xs, SqT K H a xs → SqT K H' a xs
theorem Le0.at {K μ H μ' H'} (l : Le0 K μ H μ' H') {n : Nat} {a : Addr} (h : μ[n]? = some a) : μ'[n]? = some a := by
  obtain ⟨t, rfl⟩ := l.pre
  have hn : n < μ.length := (List.getElem?_eq_some_iff.mp h).1
  rw [List.getElem?_append_left hn]; exact h
/-- dicts that are walked -/
def Fz (H H' : Hp) : Prop := ∀ (a : Addr) (o : Obj) (xs : List (List Int × Addr × Value)), H a = some (.frz o (DX a xs)) → H' a = some (.frz o (DX a xs))
structure Le (K : PySem.W.Frag) (μ : Mu) (H : Hp) (μ' : Mu) (H' : Hp) : Prop where
  pre : ∃ t, μ' = μ ++ t
  tup : ∀ a xs, SqT K H a xs → SqT K H' a xs
  fz : Fz H H'
theorem Le.l0 {K μ H μ' H'} (l : Le K μ H μ' H') : Le0 K μ H μ' H' := ⟨l.pre, l.tup⟩
theorem Le.refl {K μ H} : Le K μ H μ H := ⟨⟨[], by simp⟩, fun _ _ h => h, fun _ _ _ h => h⟩
theorem Le.trans {K μ H μ1 H1 μ2 H2} (a : Le K μ H μ1 H1) (b : Le K μ1 H1 μ2 H2) : Le K μ H μ2 H2 := by
  obtain ⟨t, rfl⟩ := a.pre
  obtain ⟨u, rfl⟩ := b.pre
  exact ⟨⟨t ++ u, by simp⟩, fun x xs h => b.tup x xs (a.tup x xs h), fun x o xs h => b.fz x o xs (a.fz x o xs h)⟩
theorem Le.at {K μ H μ' H'} (l : Le K μ H μ' H') {n : Nat} {a : Addr} (h : μ[n]? = some a) : μ'[n]? = some a := by
  obtain ⟨t, rfl⟩ := l.pre
  rw [List.getElem?_append_left (List.getElem?_eq_some_iff.mp h).1]
  exact h
section
variable {K : PySem.W.Frag} {μ μ' : Mu} {H H' : Hp}
mutual
theorem RepV.mono0 (l : Le0 K μ H μ' H') : ∀ {d : D} {v : V}, RepV K H μ d v → RepV K H' μ' d v
  | _, _, .non => .non
  | _, _, .bl b => .bl b
  | _, _, .int i => .int i
  | _, _, .str x => .str x
  | _, _, .tup h r => .tup (l.tup _ _ h) (RepVs.mono0 l r)
  | _, _, .ref h => .ref (l.at h)
  | _, _, .exc c a => .exc c a
theorem RepVs.mono0 (l : Le0 K μ H μ' H') : ∀ {ds : List D} {vs : List V}, RepVs K H μ ds vs → RepVs K H' μ' ds vs
  | _, _, .nil => .nil
  | _, _, .cons h r => .cons (RepV.mono0 l h) (RepVs.mono0 l r)
end
theorem RepV.mono (l : Le K μ H μ' H') {d : D} {v : V} (r : RepV K H μ d v) : RepV K H' μ' d v := r.mono0 l.l0
theorem RepVs.mono (l : Le K μ H μ' H') {ds : List D} {vs : List V} (r : RepVs K H μ ds vs) : RepVs K H' μ' ds vs := r.mono0 l.l0
theorem RepVs.length : ∀ {ds : List D} {vs : List V}, RepVs K H μ ds vs → vs.length = ds.length
  | _, _, .nil => rfl
  | _, _, .cons _ r => by simp [RepVs.length r]
theorem RepVs.append : ∀ {ds es : List D} {vs ws : List V}, RepVs K H μ ds vs → RepVs K H μ es ws → RepVs K H μ (ds ++ es) (vs ++ ws)
  | _, _, _, _, .nil, s => s
  | _, _, _, _, .cons h r, s => .cons h (RepVs.append r s)
theorem RepVs.get : ∀ {ds : List D} {vs : List V} {i : Nat} {d : D}, RepVs K H μ ds vs → ds[i]? = some d → ∃ v, vs[i]? = some v ∧ RepV K H μ d v
  | _, _, i, d, .nil, e => by simp at e
  | _, _, 0, d, .cons (v := v) h _, e => ⟨v, rfl, by simp at e; rw [← e]; exact h⟩
  | _, _, i + 1, d, .cons h r, e => by
    obtain ⟨v, h1, h2⟩ := RepVs.get (i := i) (d := d) r (by simpa using e)
    exact ⟨v, by simpa using h1, h2⟩
theorem RepVs.drop : ∀ {ds : List D} {vs : List V} (n : Nat), RepVs K H μ ds vs → RepVs K H μ (ds.drop n) (vs.drop n)
  | _, _, 0, r => r
  | _, _, _ + 1, .nil => .nil
  | _, _, n + 1, .cons _ r => RepVs.drop n r
theorem RepVs.take : ∀ {ds : List D} {vs : List V} (n : Nat), RepVs K H μ ds vs → RepVs K H μ (ds.take n) (vs.take n)
  | _, _, 0, _ => .nil
  | _, _, _ + 1, .nil => .nil
  | _, _, n + 1, .cons h r => .cons h (RepVs.take n r)
theorem RepVs.isEmpty {ds : List D} {vs : List V} (r : RepVs K H μ ds vs) : vs.isEmpty = ds.isEmpty := by
  cases r <;> rfl
theorem RepVs.rep {ds : List D} {vs : List V} (r : RepVs K H μ ds vs) : ∀ k : Nat, RepVs K H μ (List.replicate k ds).flatten (List.replicate k vs).flatten
  | 0 => .nil
  | k + 1 => by
    simp only [List.replicate_succ, List.flatten_cons]
    exact r.append (RepVs.rep r k)

/-- a list that is never written -/
def RoL (K : PySem.W.Frag) (H : Hp) (a : Addr) (vs : List V) : Prop :=
  (∃ o, H a = some (.frz o (.lst vs))) ∨
    ∃ (o : Obj) (its : Array Value) (n : Nat), K.lookup a = some o ∧ o.cls = .type "list" ∧ o.dict = none ∧ o.data = .seq its n ∧ its.size ≤ sizeLine ∧ Vals vs its.toList
theorem RoL.sq {a : Addr} {vs : List V} (h : RoL K H a vs) : SqL K H a vs := by
  rcases h with ⟨o, h⟩ | h
  · exact .inl (.inr ⟨o, h⟩)
  · exact .inr h
/-- a cell and what the heap holds: dicts, instances -/
def RelC (K : PySem.W.Frag) (H : Hp) (μ : Mu) : Cell → HO → Prop
  | .ins x fs, .ins C _ gs => PySem.W.nsIn K mainGlobals x = some (some (.ref C)) ∧ gs.map (·.1) = fs.map (·.1) ∧ RepVs K H μ (fs.map (·.2)) (gs.map (·.2))
  | .dk kvs, .dK gs => gs.map (·.1) = kvs.map (·.1) ∧ RepVs K H μ (kvs.map (·.2)) (gs.map (·.2))
  | _, _ => False
/-- the pairs of a dict and its entries -/
def KV1 (K : PySem.W.Frag) (H : Hp) (μ : Mu) (p : List Int × D) (q : List Int × Addr × Value) : Prop := p.1 = q.1 ∧ SqT K H q.2.1 (q.1.map V.int) ∧ ∃ v, RepV K H μ p.2 v ∧ RelV v q.2.2
abbrev KVX (K : PySem.W.Frag) (H : Hp) (μ : Mu) (kvs : List (List Int × D)) (xs : List (List Int × Addr × Value)) : Prop := Paired (KV1 K H μ) kvs xs
theorem KVX.mono0 {K : PySem.W.Frag} {H H' : Hp} {μ μ' : Mu} {kvs : List (List Int × D)} {xs : List (List Int × Addr × Value)} (l : Le0 K μ H μ' H') (r : KVX K H μ kvs xs) : KVX K H' μ' kvs xs :=
  Paired.mapP r fun _ _ ⟨h1, h2, v, h3, h4⟩ => ⟨h1, l.tup _ _ h2, v, h3.mono0 l, h4⟩
theorem KVX.mono {K : PySem.W.Frag} {H H' : Hp} {μ μ' : Mu} {kvs : List (List Int × D)} {xs : List (List Int × Addr × Value)} (l : Le K μ H μ' H') (r : KVX K H μ kvs xs) : KVX K H' μ' kvs xs :=
  Paired.mapP r fun _ _ ⟨h1, h2, v, h3, h4⟩ => ⟨h1, l.tup _ _ h2, v, h3.mono l, h4⟩
def RepC (K : PySem.W.Frag) (H : Hp) (μ : Mu) : Cell → Addr → Prop
  | .lst ds, a => ∃ vs, H a = some (.lst vs) ∧ RepVs K H μ ds vs
  | .ro ds, a => ∃ vs, RoL K H a vs ∧ RepVs K H μ ds vs
  | .dct kvs, a => ∃ xs, H a = some (DX a xs) ∧ KVX K H μ kvs xs
  | .dk kvs, a => ∃ o, H a = some o ∧ RelC K H μ (.dk kvs) o
  | .hid kvs, a => ∃ o xs, H a = some (.frz o (DX a xs)) ∧ KVX K H μ kvs xs
  | .ins x fs, a => ∃ o, H a = some o ∧ RelC K H μ (.ins x fs) o
/-- neither a tuple nor a thing that is only read -/
def NT (o : HO) : Prop := (∀ xs, o ≠ .tup xs) ∧ ∀ q u, o ≠ .frz q u
theorem NT.lst {vs : List V} : NT (.lst vs) := ⟨(fun _ z => nomatch z), (fun _ _ z => nomatch z)⟩
theorem RelC.nt {K : PySem.W.Frag} {H : Hp} {μ : Mu} {c : Cell} {o : HO} (r : RelC K H μ c o) : NT o := by
  refine ⟨fun xs z => ?_, fun q u z => ?_⟩ <;> (subst z; cases c <;> exact r)
theorem RelC.mono0 {K : PySem.W.Frag} {H H' : Hp} {μ μ' : Mu} {c : Cell} {o : HO} (l : Le0 K μ H μ' H') (r : RelC K H μ c o) : RelC K H' μ' c o := by
  cases c <;> cases o <;> first | exact r | skip
  · obtain ⟨h1, h2⟩ := r; exact ⟨h1, h2.mono0 l⟩
  · obtain ⟨h0, h1, h2⟩ := r; exact ⟨h0, h1, h2.mono0 l⟩
theorem RelC.mono {K : PySem.W.Frag} {H H' : Hp} {μ μ' : Mu} {c : Cell} {o : HO} (l : Le K μ H μ' H') (r : RelC K H μ c o) : RelC K H' μ' c o := by
  cases c <;> cases o <;> first | exact r | skip
  · obtain ⟨h1, h2⟩ := r; exact ⟨h1, h2.mono l⟩
  · obtain ⟨h0, h1, h2⟩ := r; exact ⟨h0, h1, h2.mono l⟩
def Cell.isRo : Cell → Bool
  | .ro _ => true
  | _ => false
structure RepS (K : PySem.W.Frag) (H : Hp) (μ : Mu) (S : Store) : Prop where
  len : μ.length = S.length
  cell : ∀ (n : Nat) (c : Cell) (a : Addr), S[n]? = some c → μ[n]? = some a → RepC K H μ c a
  apart : ∀ (m n : Nat) (a : Addr) (c e : Cell), m ≠ n → μ[m]? = some a → μ[n]? = some a → S[m]? = some c → S[n]? = some e → c.isRo = true ∨ e.isRo = true
def RepE (K : PySem.W.Frag) (H : Hp) (μ : Mu) (σ : L2.St) (ρ : Env) : Prop := σ.length = ρ.length ∧ ∀ (i : Nat) d, ρ[i]? = some (some d) → ∃ v, σ[i]? = some (some v) ∧ RepV K H μ d v
structure Sim (K : PySem.W.Frag) (μ : Mu) (σ : L2.St) (H : Hp) (ρ : Env) (S : Store) : Prop where
  e : RepE K H μ σ ρ
  s : RepS K H μ S
theorem RepE.mono {σ : L2.St} {ρ : Env} (l : Le K μ H μ' H') (r : RepE K H μ σ ρ) : RepE K H' μ' σ ρ :=
  ⟨r.1, fun i d h => let ⟨v, h1, h2⟩ := r.2 i d h; ⟨v, h1, h2.mono l⟩⟩
theorem RepE.mono0 {σ : L2.St} {ρ : Env} (l : Le0 K μ H μ' H') (r : RepE K H μ σ ρ) : RepE K H' μ' σ ρ :=
  ⟨r.1, fun i d h => let ⟨v, h1, h2⟩ := r.2 i d h; ⟨v, h1, h2.mono0 l⟩⟩
theorem RepS.at {S : Store} (r : RepS K H μ S) {n : Nat} {c : Cell} (h : S[n]? = some c) : ∃ a, μ[n]? = some a ∧ RepC K H μ c a := by
  have hn : n < μ.length := by rw [r.len]; exact (List.getElem?_eq_some_iff.mp h).1
  exact ⟨μ[n], List.getElem?_eq_getElem hn, r.cell n c _ h (List.getElem?_eq_getElem hn)⟩

/-! ### heaps that grow -/
theorem sqT_new {a p : Addr} {xs : List V} {o : HO} (hp : H p = none) (h : SqT K H a xs) : SqT K (upd H p o) a xs := by
  rcases h with (h | ⟨u, h⟩) | h
  · exact .inl (.inl (by rw [upd_ne (ne_of_none h hp)]; exact h))
  · exact .inl (.inr ⟨u, by rw [upd_ne (ne_of_none h hp)]; exact h⟩)
  · exact .inr h
theorem roL_new {a p : Addr} {xs : List V} {o : HO} (hp : H p = none) (h : RoL K H a xs) : RoL K (upd H p o) a xs := by
  rcases h with ⟨u, h⟩ | h
  · exact .inl ⟨u, by rw [upd_ne (ne_of_none h hp)]; exact h⟩
  · exact .inr h
theorem fz_new {p : Addr} {o : HO} (hp : H p = none) : Fz H (upd H p o) := fun a u xs h => by rw [upd_ne (ne_of_none h hp)]; exact h
theorem fz_updC {p : Addr} {o o0 : HO} (hp : H p = some o0) (nt : NT o0) : Fz H (upd H p o) := fun a u xs h => by rw [upd_ne (ne_of h hp (nt.2 _ _).symm)]; exact h
theorem le_new {p : Addr} {o : HO} (hp : H p = none) : Le K μ H μ (upd H p o) := ⟨⟨[], by simp⟩, fun _ _ h => sqT_new hp h, fz_new hp⟩
theorem le_newP {p : Addr} {o : HO} (hp : H p = none) : Le K μ H (μ ++ [p]) (upd H p o) := ⟨⟨[p], rfl⟩, fun _ _ h => sqT_new hp h, fz_new hp⟩
/-- a new object that no cell stands for -/
theorem RepC.new {p a : Addr} {o : HO} {c : Cell} (hp : H p = none) (r : RepC K H μ c a) : RepC K (upd H p o) μ c a := by
  cases c with
  | lst ds => obtain ⟨vs, h, r⟩ := r; exact ⟨vs, by rw [upd_ne (ne_of_none h hp)]; exact h, r.mono (le_new hp)⟩
  | ro ds => obtain ⟨vs, h, r⟩ := r; exact ⟨vs, roL_new hp h, r.mono (le_new hp)⟩
  | dct _ => obtain ⟨q, h, r⟩ := r; exact ⟨q, by rw [upd_ne (ne_of_none h hp)]; exact h, r.mono (le_new hp)⟩
  | dk _ => obtain ⟨q, h, r⟩ := r; exact ⟨q, by rw [upd_ne (ne_of_none h hp)]; exact h, r.mono (le_new hp)⟩
  | hid _ => obtain ⟨o, q, h, r⟩ := r; exact ⟨o, q, by rw [upd_ne (ne_of_none h hp)]; exact h, r.mono (le_new hp)⟩
  | ins _ _ => obtain ⟨q, h, r⟩ := r; exact ⟨q, by rw [upd_ne (ne_of_none h hp)]; exact h, r.mono (le_new hp)⟩
theorem RepC.more {t : Mu} {a : Addr} {c : Cell} (r : RepC K H μ c a) : RepC K H (μ ++ t) c a := by
  have l : Le K μ H (μ ++ t) H := ⟨⟨t, rfl⟩, fun _ _ h => h, fun _ _ _ h => h⟩
  cases c with
  | lst ds => obtain ⟨vs, h, r⟩ := r; exact ⟨vs, h, r.mono l⟩
  | ro ds => obtain ⟨vs, h, r⟩ := r; exact ⟨vs, h, r.mono l⟩
  | dct _ => obtain ⟨q, h, r⟩ := r; exact ⟨q, h, r.mono l⟩
  | dk _ => obtain ⟨q, h, r⟩ := r; exact ⟨q, h, r.mono l⟩
  | hid _ => obtain ⟨o, q, h, r⟩ := r; exact ⟨o, q, h, r.mono l⟩
  | ins _ _ => obtain ⟨q, h, r⟩ := r; exact ⟨q, h, r.mono l⟩
theorem RepS.new {S : Store} {p : Addr} {o : HO} (hp : H p = none) (r : RepS K H μ S) : RepS K (upd H p o) μ S :=
  ⟨r.len, fun n c a h1 h2 => (r.cell n c a h1 h2).new hp, r.apart⟩
/-- a mutable cell's address is tracked -/
theorem RepC.tracked {a : Addr} {c : Cell} (r : RepC K H μ c a) (h : c.isRo = false) : H a ≠ none := by
  cases c with
  | lst ds => obtain ⟨vs, h, _⟩ := r; rw [h]; simp
  | ro ds => simp [Cell.isRo] at h
  | dct _ => obtain ⟨q, h, _⟩ := r; rw [h]; simp
  | dk _ => obtain ⟨q, h, _⟩ := r; rw [h]; simp
  | hid _ => obtain ⟨o, q, h, _⟩ := r; rw [h]; simp
  | ins _ _ => obtain ⟨q, h, _⟩ := r; rw [h]; simp
theorem get_snoc {α : Type} {l : List α} {x : α} {n : Nat} {y : α} (h : (l ++ [x])[n]? = some y) : l[n]? = some y ∨ (n = l.length ∧ y = x) := by
  by_cases hn : n < l.length
  · rw [List.getElem?_append_left hn] at h; exact .inl h
  · rw [List.getElem?_append_right (by omega)] at h
    have : n - l.length = 0 := by
      cases e : n - l.length with
      | zero => rfl
      | succ k => rw [e] at h; simp at h
    rw [this] at h
    simp at h
    exact .inr ⟨by omega, h.symm⟩
theorem snoc_at {α : Type} {l : List α} {x : α} : (l ++ [x])[l.length]? = some x := by simp
/-- a new cell -/
theorem RepS.alloc {S : Store} {p : Addr} {o : HO} {c : Cell} (hp : H p = none) (r : RepS K H μ S) (new : RepC K (upd H p o) (μ ++ [p]) c p) : RepS K (upd H p o) (μ ++ [p]) (S ++ [c]) := by
  refine ⟨by simp [r.len], fun n e a h1 h2 => ?_, fun m n a e f hmn h1 h2 h3 h4 => ?_⟩
  · rcases get_snoc h1 with h1 | ⟨rfl, rfl⟩
    · rcases get_snoc h2 with h2 | ⟨rfl, rfl⟩
      · exact ((r.cell n e a h1 h2).new hp).more
      · have := (List.getElem?_eq_some_iff.mp h1).1; rw [r.len] at this; omega
    · rw [← r.len, snoc_at] at h2
      cases h2
      exact new
  · have key : ∀ (k : Nat) (g : Cell), μ[k]? = some p → S[k]? = some g → g.isRo = true := fun k g h5 h6 => by
      have rc := r.cell k g p h6 h5
      cases hg : g.isRo with
      | true => rfl
      | false => exact absurd hp (rc.tracked hg)
    rcases get_snoc h1 with g1 | ⟨e1, e2⟩
    · rcases get_snoc h2 with g2 | ⟨e3, e4⟩
      · have hm := (List.getElem?_eq_some_iff.mp g1).1
        have hn := (List.getElem?_eq_some_iff.mp g2).1
        rw [r.len] at hm hn
        rw [List.getElem?_append_left hm] at h3
        rw [List.getElem?_append_left hn] at h4
        exact r.apart m n a e f hmn g1 g2 h3 h4
      · have hm := (List.getElem?_eq_some_iff.mp g1).1
        rw [r.len] at hm
        rw [List.getElem?_append_left hm] at h3
        exact .inl (key m e (by rw [← e4]; exact g1) h3)
    · rcases get_snoc h2 with g2 | ⟨e3, e4⟩
      · have hn := (List.getElem?_eq_some_iff.mp g2).1
        rw [r.len] at hn
        rw [List.getElem?_append_left hn] at h4
        exact .inr (key n f (by rw [← e2]; exact g2) h4)
      · omega
/-! ### a cell is written -/
theorem sqT_updC {a p : Addr} {xs : List V} {o o0 : HO} (hp : H p = some o0) (nt : NT o0) (h : SqT K H a xs) : SqT K (upd H p o) a xs := by
  rcases h with (h | ⟨u, h⟩) | h
  · exact .inl (.inl (by rw [upd_ne (ne_of h hp (nt.1 _).symm)]; exact h))
  · exact .inl (.inr ⟨u, by rw [upd_ne (ne_of h hp (nt.2 _ _).symm)]; exact h⟩)
  · exact .inr h
theorem roL_updC {a p : Addr} {xs : List V} {o o0 : HO} (hp : H p = some o0) (nt : NT o0) (h : RoL K H a xs) : RoL K (upd H p o) a xs := by
  rcases h with ⟨u, h⟩ | h
  · exact .inl ⟨u, by rw [upd_ne (ne_of h hp (nt.2 _ _).symm)]; exact h⟩
  · exact .inr h
theorem le_updC {p : Addr} {o o0 : HO} (hp : H p = some o0) (nt : NT o0) : Le K μ H μ (upd H p o) := ⟨⟨[], by simp⟩, fun _ _ h => sqT_updC hp nt h, fz_updC hp nt⟩
theorem le_upd {p : Addr} {vs : List V} {o : HO} (hp : H p = some (.lst vs)) : Le K μ H μ (upd H p o) := le_updC hp .lst
theorem RepC.upd {p a : Addr} {o o0 : HO} {c : Cell} (hp : H p = some o0) (nt : NT o0) (ha : a ≠ p) (r : RepC K H μ c a) : RepC K (upd H p o) μ c a := by
  cases c with
  | lst es => obtain ⟨us, h, r2⟩ := r; exact ⟨us, by rw [upd_ne ha]; exact h, r2.mono (le_updC hp nt)⟩
  | ro es => obtain ⟨us, h, r2⟩ := r; exact ⟨us, roL_updC hp nt h, r2.mono (le_updC hp nt)⟩
  | dct _ => obtain ⟨q, h, r⟩ := r; exact ⟨q, by rw [upd_ne ha]; exact h, r.mono (le_updC hp nt)⟩
  | dk _ => obtain ⟨q, h, r⟩ := r; exact ⟨q, by rw [upd_ne ha]; exact h, r.mono (le_updC hp nt)⟩
  | hid _ => obtain ⟨o, q, h, r⟩ := r; exact ⟨o, q, by rw [upd_ne ha]; exact h, r.mono (le_updC hp nt)⟩
  | ins _ _ => obtain ⟨q, h, r⟩ := r; exact ⟨q, by rw [upd_ne ha]; exact h, r.mono (le_updC hp nt)⟩
theorem RepS.writeC {S : Store} {p : Addr} {n : Nat} {o o' : HO} {c0 c1 : Cell} (r : RepS K H μ S) (hS : S[n]? = some c0) (hm : μ[n]? = some p) (hp : H p = some o) (nt : NT o) (hc : c0.isRo = false) (hc1 : c1.isRo = false)
    (new : RepC K (L2.upd H p o') μ c1 p) : RepS K (L2.upd H p o') μ (S.set n c1) := by
  have hn := (List.getElem?_eq_some_iff.mp hS).1
  refine ⟨by simp [r.len], fun k c a h1 h2 => ?_, fun k l a c e hkl h1 h2 h3 h4 => ?_⟩
  · by_cases hk : n = k
    · subst hk
      rw [List.getElem?_set_self hn] at h1
      cases h1
      rw [hm] at h2
      cases h2
      exact new
    · rw [List.getElem?_set_ne hk] at h1
      have rc := r.cell k c a h1 h2
      by_cases ha : a = p
      · subst ha
        rcases r.apart n k a _ c hk hm h2 hS h1 with q | q
        · rw [hc] at q; cases q
        · cases c with
          | ro es =>
            obtain ⟨us, h, r2⟩ := rc
            exact ⟨us, roL_updC hp nt h, r2.mono (le_updC hp nt)⟩
          | _ => simp [Cell.isRo] at q
      · exact rc.upd hp nt ha
  · have ro_of : ∀ (j : Nat) (g : Cell), (S.set n c1)[j]? = some g → ∃ g', S[j]? = some g' ∧ g'.isRo = g.isRo := fun j g hj => by
      by_cases e : n = j
      · subst e
        rw [List.getElem?_set_self hn] at hj
        cases hj
        exact ⟨_, hS, by rw [hc, hc1]⟩
      · rw [List.getElem?_set_ne e] at hj
        exact ⟨g, hj, rfl⟩
    obtain ⟨c', h5, e5⟩ := ro_of k c h3
    obtain ⟨e', h6, e6⟩ := ro_of l e h4
    rw [← e5, ← e6]
    exact r.apart k l a c' e' hkl h1 h2 h5 h6
theorem RepS.write {S : Store} {p : Addr} {n : Nat} {vs ws : List V} {xs ds : List D} (r : RepS K H μ S) (hS : S[n]? = some (.lst xs)) (hm : μ[n]? = some p) (hp : H p = some (.lst vs)) (rw' : RepVs K H μ ds ws) :
    RepS K (L2.upd H p (.lst ws)) μ (S.set n (.lst ds)) := r.writeC hS hm hp .lst rfl rfl ⟨ws, upd_same, rw'.mono (le_upd hp)⟩
/-! ### a walked dict is let go -/
theorem ne_frz {p a : Addr} {o u : Obj} {xs : List (List Int × Addr × Value)} {w : HO} (hp : H p = some (.frz o (DX p xs))) (h : H a = some (.frz u w)) (hw : (∃ ys, w = .tup ys) ∨ ∃ ys, w = .lst ys) : a ≠ p := fun e => by
  subst e
  rw [hp] at h
  cases h
  rcases hw with ⟨_, h⟩ | ⟨_, h⟩ <;> (unfold DX at h; cases h)
theorem le0_unl {p : Addr} {o : Obj} {xs : List (List Int × Addr × Value)} {w : HO} (hp : H p = some (.frz o (DX p xs))) : Le0 K μ H μ (L2.upd H p w) := ⟨⟨[], by simp⟩, fun a ys h => by
  rcases h with (h | ⟨u, h⟩) | h
  · exact .inl (.inl (by rw [upd_ne (ne_of h hp (by intro z; cases z))]; exact h))
  · exact .inl (.inr ⟨u, by rw [upd_ne (ne_frz hp h (.inl ⟨_, rfl⟩))]; exact h⟩)
  · exact .inr h⟩
theorem roL_unl {p a : Addr} {o : Obj} {xs : List (List Int × Addr × Value)} {w : HO} {ys : List V} (hp : H p = some (.frz o (DX p xs))) (h : RoL K H a ys) : RoL K (L2.upd H p w) a ys := by
  rcases h with ⟨u, h⟩ | h
  · exact .inl ⟨u, by rw [upd_ne (ne_frz hp h (.inr ⟨_, rfl⟩))]; exact h⟩
  · exact .inr h
theorem RepC.unl {p a : Addr} {o : Obj} {xs : List (List Int × Addr × Value)} {w : HO} {c : Cell} (hp : H p = some (.frz o (DX p xs))) (ha : a ≠ p) (r : RepC K H μ c a) : RepC K (L2.upd H p w) μ c a := by
  cases c with
  | lst es => obtain ⟨us, h, r2⟩ := r; exact ⟨us, by rw [upd_ne ha]; exact h, r2.mono0 (le0_unl hp)⟩
  | ro es => obtain ⟨us, h, r2⟩ := r; exact ⟨us, roL_unl hp h, r2.mono0 (le0_unl hp)⟩
  | dct _ => obtain ⟨q, h, r⟩ := r; exact ⟨q, by rw [upd_ne ha]; exact h, r.mono0 (le0_unl hp)⟩
  | dk _ => obtain ⟨q, h, r⟩ := r; exact ⟨q, by rw [upd_ne ha]; exact h, r.mono0 (le0_unl hp)⟩
  | hid _ => obtain ⟨o, q, h, r⟩ := r; exact ⟨o, q, by rw [upd_ne ha]; exact h, r.mono0 (le0_unl hp)⟩
  | ins _ _ => obtain ⟨q, h, r⟩ := r; exact ⟨q, by rw [upd_ne ha]; exact h, r.mono0 (le0_unl hp)⟩
theorem RepS.unl {S : Store} {p : Addr} {n : Nat} {o : Obj} {xs : List (List Int × Addr × Value)} {kvs : List (List Int × D)} (r : RepS K H μ S) (hS : S[n]? = some (.hid kvs)) (hm : μ[n]? = some p) (hp : H p = some (.frz o (DX p xs))) :
    RepS K (L2.upd H p (DX p xs)) μ (S.set n (.dct kvs)) := by
  have hn := (List.getElem?_eq_some_iff.mp hS).1
  refine ⟨by simp [r.len], fun k c a h1 h2 => ?_, fun k l a c e hkl h1 h2 h3 h4 => ?_⟩
  · by_cases hk : n = k
    · subst hk
      rw [List.getElem?_set_self hn] at h1
      cases h1
      rw [hm] at h2
      cases h2
      obtain ⟨o', xs', h, rr⟩ := r.cell n _ p hS hm
      rw [hp] at h
      have hx : DX p xs = DX p xs' := by injection h with h; injection h
      exact ⟨xs', by rw [upd_same, hx], rr.mono0 (le0_unl hp)⟩
    · rw [List.getElem?_set_ne hk] at h1
      have rc := r.cell k c a h1 h2
      by_cases ha : a = p
      · subst ha
        rcases r.apart n k a _ c hk hm h2 hS h1 with q | q
        · cases q
        · cases c with
          | ro es =>
            obtain ⟨us, h, r2⟩ := rc
            exact ⟨us, roL_unl hp h, r2.mono0 (le0_unl hp)⟩
          | _ => simp [Cell.isRo] at q
      · exact rc.unl hp ha
  · have ro_of : ∀ (j : Nat) (g : Cell), (S.set n (.dct kvs))[j]? = some g → ∃ g', S[j]? = some g' ∧ g'.isRo = g.isRo := fun j g hj => by
      by_cases e : n = j
      · subst e
        rw [List.getElem?_set_self hn] at hj
        cases hj
        exact ⟨_, hS, rfl⟩
      · rw [List.getElem?_set_ne e] at hj
        exact ⟨g, hj, rfl⟩
    obtain ⟨c', h5, e5⟩ := ro_of k c h3
    obtain ⟨e', h6, e6⟩ := ro_of l e h4
    rw [← e5, ← e6]
    exact r.apart k l a c' e' hkl h1 h2 h5 h6
end
end Ng

set_option Elab.async false
set_option linter.all false
set_option maxRecDepth 100000
set_option maxHeartbeats 2000000
/-! Readings by the engine; operations on values. -/
namespace Ng
open PySem PySem.Spec PyProof.Rows L2

/-- an exception's own dict -/
def XD (K : PySem.W.Frag) (H : Hp) (μ : Mu) (fs : List (Str × D)) (d : Option Addr) : Prop :=
  (fs = [] ∧ d = none) ∨ fs ≠ [] ∧ ∃ a gs, d = some a ∧ H a = some (.xd gs) ∧ gs.map (·.1) = fs.map (·.1) ∧ RepVs K H μ (fs.map (·.2)) (gs.map (·.2))
section
variable (K : PySem.W.Frag) (γ : Nat → Value) (W : WX)
/-- what follows an outcome -/
def PostR {α β : Type} (rel : Mu → Hp → α → β → Prop) (μ : Mu) (H : Hp) (σ : L2.St) (ρ : Env) (r : R α) (Q : β → Hp → Prop) : Prop :=
  match r with
  | .ok a S' => ∀ μ' H' b, Le K μ H μ' H' → Sim K μ' σ H' ρ S' → rel μ' H' a b → Q b H'
  | .exc c fs S' => ∀ μ' H' d, Le K μ H μ' H' → Sim K μ' σ H' ρ S' → XD K H' μ' fs d → W (γ c) d σ H'
  | .bad => False
def relV (μ : Mu) (H : Hp) (d : D) (v : V) : Prop := RepV K H μ d v
def relVs (μ : Mu) (H : Hp) (d : List D) (v : List V) : Prop := RepVs K H μ d v
def relEq {α : Type} (_ : Mu) (_ : Hp) (a b : α) : Prop := a = b
def tR {α β : Type} (rel : Mu → Hp → α → β → Prop) (f : Env → Store → R α) (σ : L2.St) (H : Hp) (Q : β → Hp → Prop) : Prop :=
  ∃ μ ρ S, Sim K μ σ H ρ S ∧ PostR K γ W rel μ H σ ρ (f ρ S) Q
def tE (f : Env → Store → R D) : TE := tR K γ W (relV K) f
def tT (f : Env → Store → R Bool) : TT := tR K γ W relEq f
def tA (f : Env → Store → R (List D)) : TA := tR K γ W (relVs K) f
def tO (f : Env → Store → R (Option Int)) : TO := tR K γ W relEq f
end
section
variable {K : PySem.W.Frag} {γ : Nat → Value} {W : WX} {α β α' β' : Type} {rel : Mu → Hp → α → β → Prop} {rel' : Mu → Hp → α' → β' → Prop} {μ μ1 : Mu} {H H1 : Hp} {σ : L2.St} {ρ : Env} {S : Store} {r : R α}
theorem PostR.base {Q : β → Hp → Prop} (l : Le K μ H μ1 H1) (h : PostR K γ W rel μ H σ ρ r Q) : PostR K γ W rel μ1 H1 σ ρ r Q := by
  cases r with
  | ok a S' => exact fun μ' H' b l' => h μ' H' b (l.trans l')
  | exc c fs S' => exact fun μ' H' d l' => h μ' H' d (l.trans l')
  | bad => exact h
theorem PostR.imp {Q Q' : β → Hp → Prop} (h : PostR K γ W rel μ H σ ρ r Q) (q : ∀ b H', Q b H' → Q' b H') : PostR K γ W rel μ H σ ρ r Q' := by
  cases r with
  | ok a S' => exact fun μ' H' b l s rl => q _ _ (h μ' H' b l s rl)
  | exc c fs S' => exact h
  | bad => exact h
/-- one behind the other -/
theorem PostR.bind {k : α → Store → R α'} {Q : β' → Hp → Prop} (h : PostR K γ W rel' μ H σ ρ (r.bind k) Q) :
    PostR K γ W rel μ H σ ρ r fun b H1 => ∃ μ1 S1 a, Le K μ H μ1 H1 ∧ Sim K μ1 σ H1 ρ S1 ∧ rel μ1 H1 a b ∧ PostR K γ W rel' μ1 H1 σ ρ (k a S1) Q := by
  cases r with
  | ok a S' => exact fun μ' H' b l s rl => ⟨μ', S', a, l, s, rl, PostR.base l h⟩
  | exc c fs S' => exact h
  | bad => exact h
/-- an outcome that is there -/
theorem PostR.here {a : α} {b : β} {Q : β → Hp → Prop} (h : PostR K γ W rel μ H σ ρ (.ok a S) Q) (s : Sim K μ σ H ρ S) (rl : rel μ H a b) : Q b H := h μ H b .refl s rl
theorem PostR.later {a : α} {b : β} {Q : β → Hp → Prop} (h : PostR K γ W rel μ H σ ρ (.ok a S) Q) (l : Le K μ H μ1 H1) (s : Sim K μ1 σ H1 ρ S) (rl : rel μ1 H1 a b) : Q b H1 := h μ1 H1 b l s rl
theorem Sim.alloc {p : Addr} {o : HO} {c : Cell} (s : Sim K μ σ H ρ S) (hp : H p = none) (new : RepC K (upd H p o) (μ ++ [p]) c p) : Sim K (μ ++ [p]) σ (upd H p o) ρ (S ++ [c]) :=
  ⟨s.e.mono (le_newP hp), s.s.alloc hp new⟩
theorem Sim.new {p : Addr} {o : HO} (s : Sim K μ σ H ρ S) (hp : H p = none) : Sim K μ σ (upd H p o) ρ S := ⟨s.e.mono (le_new hp), s.s.new hp⟩
theorem Sim.ref (s : Sim K μ σ H ρ S) (p : Addr) : (μ ++ [p])[S.length]? = some p := by rw [← s.s.len]; exact snoc_at
end

/-! ### weaker readings, two readings of one syntax -/
section
variable {X : Cx} {e : Expr} {es : List Expr}
theorem pe_imp {t t' : TE} (h : PE X e t) (i : ∀ σ H Q, t' σ H Q → t σ H Q) : PE X e t' := ⟨fun pins s σ H Q I q => h.run pins s σ H Q I (i σ H Q q)⟩
theorem pt_imp {t t' : TT} (h : PT X e t) (i : ∀ σ H Q, t' σ H Q → t σ H Q) : PT X e t' := ⟨fun pins s σ H Q I q => h.run pins s σ H Q I (i σ H Q q)⟩
theorem pw_imp {t t' : TT} (h : PW X e t) (i : ∀ σ H Q, t' σ H Q → t σ H Q) : PW X e t' := ⟨fun w pins s σ H Q I q => h.run w pins s σ H Q I (i σ H Q q)⟩
theorem pa_imp {t t' : TA} (h : PA X es t) (i : ∀ σ H Q, t' σ H Q → t σ H Q) : PA X es t' := ⟨fun pos pins s σ H Q I q => h.run pos pins s σ H Q I (i σ H Q q)⟩
theorem po_imp {o : Option Expr} {t t' : TO} (h : PO X o t) (i : ∀ σ H Q, t' σ H Q → t σ H Q) : PO X o t' := ⟨fun pins s σ H Q I q => h.run pins s σ H Q I (i σ H Q q)⟩
theorem ps_imp {st : Stmt} {t t' : TS} (h : PS X st t) (i : ∀ D σ H, t' D σ H → t D σ H) : PS X st t' := ⟨fun pins s σ H D I q => h.run pins s σ H D I (i D σ H q)⟩
theorem pss_imp {st : List Stmt} {t t' : TS} (h : PSs X st t) (i : ∀ D σ H, t' D σ H → t D σ H) : PSs X st t' := ⟨fun pins s σ H D I q => h.run pins s σ H D I (i D σ H q)⟩
theorem opR_imp {f : Value → Value → Sem Value} {r r' : R2} (h : OpR X f r) (i : ∀ x y H Q, r' x y H Q → r x y H Q) : OpR X f r' :=
  fun pins s σ H x y v u Q I rx ry q => h pins s σ H x y v u Q I rx ry (i x y H Q q)
theorem unR_imp {f : Value → Sem Value} {r r' : V → Hp → VK → Prop} (h : UnR X f r) (i : ∀ x H Q, r' x H Q → r x H Q) : UnR X f r' :=
  fun pins s σ H x v Q I rx q => h pins s σ H x v Q I rx (i x H Q q)
theorem truR_imp {r r' : V → Hp → (Bool → Hp → Prop) → Prop} (h : TruR X r) (i : ∀ x H Q, r' x H Q → r x H Q) : TruR X r' :=
  fun pins s σ H x v Q I rx q => h pins s σ H x v Q I rx (i x H Q q)
theorem callR_imp {f : Value} {r r' : List V → Hp → VK → Prop} (h : CallR X f r) (i : ∀ xs H Q, r' xs H Q → r xs H Q) : CallR X f r' :=
  fun pins s σ H xs us Q I rx q => h pins s σ H xs us Q I rx (i xs H Q q)
theorem ixR_imp {r r' : R2} (h : IxR X r) (i : ∀ x y H Q, r' x y H Q → r x y H Q) : IxR X r' :=
  fun a b pins s σ H x y v u Q I rx ry q => h a b pins s σ H x y v u Q I rx ry (i x y H Q q)
theorem mtR_imp {id : String} {r r' : V → List V → Hp → VK → Prop} (h : MtR X id r) (i : ∀ x xs H Q, r' x xs H Q → r x xs H Q) : MtR X id r' :=
  fun pins s σ H x xs v us Q I rx ry q => h pins s σ H x xs v us Q I rx ry (i x xs H Q q)
theorem slR_imp {r r' : V → Option Int → Option Int → Hp → VK → Prop} (h : SlR X r) (i : ∀ x l u H Q, r' x l u H Q → r x l u H Q) : SlR X r' :=
  fun pins s σ H x v vl vu lo hi sl Q I rx hs pl pu q => h pins s σ H x v vl vu lo hi sl Q I rx hs pl pu (i x lo hi H Q q)
end

/-! ### what stands behind data -/
section
variable {K : PySem.W.Frag} {γ : Nat → Value} {W : WX} {μ μ1 : Mu} {H H1 : Hp} {σ : L2.St} {ρ : Env} {S : Store}
theorem Sim.list (s : Sim K μ σ H ρ S) {n : Nat} {ds : List D} {v : V} (r : RepV K H μ (.ref n) v) (h : S[n]? = some (.lst ds)) : ∃ a vs, v = .ref a ∧ H a = some (.lst vs) ∧ RepVs K H μ ds vs ∧ μ[n]? = some a := by
  cases r with
  | ref hm =>
    obtain ⟨vs, h1, h2⟩ := s.s.cell n _ _ h hm
    exact ⟨_, vs, rfl, h1, h2, hm⟩
theorem Sim.roL (s : Sim K μ σ H ρ S) {n : Nat} {ds : List D} {v : V} (r : RepV K H μ (.ref n) v) (h : S[n]? = some (.ro ds)) : ∃ a vs, v = .ref a ∧ RoL K H a vs ∧ RepVs K H μ ds vs ∧ μ[n]? = some a := by
  cases r with
  | ref hm =>
    obtain ⟨vs, h1, h2⟩ := s.s.cell n _ _ h hm
    exact ⟨_, vs, rfl, h1, h2, hm⟩
/-- an instance -/
theorem Sim.inst (s : Sim K μ σ H ρ S) {x : D} {c : Str} {fs : List (Str × D)} {v : V} (r : RepV K H μ x v) (h : insOf S c x = some fs) : ∃ n a C dx gs, x = .ref n ∧ v = .ref a ∧ S[n]? = some (.ins c fs) ∧ H a = some (.ins C dx gs) ∧
    PySem.W.nsIn K mainGlobals c = some (some (.ref C)) ∧ gs.map (·.1) = fs.map (·.1) ∧ RepVs K H μ (fs.map (·.2)) (gs.map (·.2)) ∧ μ[n]? = some a := by
  cases x with
  | ref n =>
    simp only [insOf] at h
    split at h
    case h_2 => cases h
    case h_1 y fs' e =>
      split at h
      case isFalse => cases h
      case isTrue hy =>
        cases h
        subst hy
        cases r with
        | ref hm =>
          obtain ⟨o, h1, h2⟩ := s.s.cell n _ _ e hm
          cases o <;> first | exact h2.elim | skip
          exact ⟨n, _, _, _, _, rfl, rfl, e, h1, h2.1, h2.2.1, h2.2.2, hm⟩
  | _ => simp [insOf] at h
theorem lookup_rep : ∀ {fs : List (Str × D)} {gs : List (Str × V)} (f : Str), gs.map (·.1) = fs.map (·.1) → RepVs K H μ (fs.map (·.2)) (gs.map (·.2)) →
    (∀ d, fs.lookup f = some d → ∃ v, gs.lookup f = some v ∧ RepV K H μ d v) ∧ (fs.lookup f = none → gs.lookup f = none)
  | [], [], f, _, _ => ⟨fun d h => by simp at h, fun _ => rfl⟩
  | [], _ :: _, f, e, _ => by simp at e
  | _ :: _, [], f, e, _ => by simp at e
  | (k, d0) :: fs, (k', v0) :: gs, f, e, r => by
    simp only [List.map_cons, List.cons.injEq] at e r
    obtain ⟨rfl, e2⟩ := e
    cases r with
    | cons r1 r2 =>
      obtain ⟨i1, i2⟩ := lookup_rep (fs := fs) (gs := gs) f e2 r2
      by_cases hf : f = k'
      · subst hf
        refine ⟨fun d h => ?_, fun h => ?_⟩
        · simp only [List.lookup, beq_self_eq_true] at h ⊢
          cases h
          exact ⟨_, rfl, r1⟩
        · simp [List.lookup] at h
      · have hb : (f == k') = false := beq_eq_false_iff_ne.mpr hf
        simp only [List.lookup, hb]
        exact ⟨i1, i2⟩
theorem put_rep {f : Str} {d : D} {v : V} (rv : RepV K H μ d v) : ∀ {fs : List (Str × D)} {gs : List (Str × V)}, gs.map (·.1) = fs.map (·.1) → RepVs K H μ (fs.map (·.2)) (gs.map (·.2)) →
    (putF f v gs).map (·.1) = (putD f d fs).map (·.1) ∧ RepVs K H μ ((putD f d fs).map (·.2)) ((putF f v gs).map (·.2))
  | [], [], _, _ => ⟨rfl, .cons rv .nil⟩
  | [], _ :: _, e, _ => by simp at e
  | _ :: _, [], e, _ => by simp at e
  | (k, d0) :: fs, (k', v0) :: gs, e, r => by
    simp only [List.map_cons, List.cons.injEq] at e r
    obtain ⟨rfl, e2⟩ := e
    cases r with
    | cons r1 r2 =>
      obtain ⟨i1, i2⟩ := put_rep rv (fs := fs) (gs := gs) e2 r2
      rw [show putF f v ((k', v0) :: gs) = (if k' = f then (k', v) :: gs else (k', v0) :: putF f v gs) from rfl, show putD f d ((k', d0) :: fs) = (if k' = f then (k', d) :: fs else (k', d0) :: putD f d fs) from rfl]
      by_cases hk : k' = f
      · rw [if_pos hk, if_pos hk]
        exact ⟨by simp [e2], .cons rv r2⟩
      · rw [if_neg hk, if_neg hk]
        exact ⟨by simp [i1], .cons r1 i2⟩
/-- a list or a tuple -/
theorem Sim.seq (s : Sim K μ σ H ρ S) {d : D} {ds : List D} {v : V} (r : RepV K H μ d v) (h : seqD S d = some ds) : ∃ a vs, v = .ref a ∧ (SqL K H a vs ∨ SqT K H a vs) ∧ RepVs K H μ ds vs := by
  cases d with
  | tup es =>
    cases h
    cases r with
    | tup h1 h2 => exact ⟨_, _, rfl, .inr h1, h2⟩
  | ref n =>
    simp only [seqD] at h
    split at h
    · cases h
      obtain ⟨a, vs, e, h1, h2, _⟩ := s.list r (by assumption)
      exact ⟨a, vs, e, .inl (.of h1), h2⟩
    · cases h
      obtain ⟨a, vs, e, h1, h2, _⟩ := s.roL r (by assumption)
      exact ⟨a, vs, e, .inl h1.sq, h2⟩
    · cases h
  | _ => simp [seqD] at h
/-- a new list's outcome -/
theorem PostR.newL {ds : List D} {vs : List V} {Q : VK} (h : PostR K γ W (relV K) μ H σ ρ (.ok (.ref S.length) (S ++ [.lst ds])) Q) (s : Sim K μ σ H ρ S) (r : RepVs K H μ ds vs) :
    ∀ p, H p = none → Q (.ref p) (upd H p (.lst vs)) := fun p hp =>
  h (μ ++ [p]) _ _ (le_newP hp) (s.alloc hp ⟨vs, upd_same, r.mono (le_newP hp)⟩) (.ref (s.ref p))
/-- a new tuple's outcome -/
theorem PostR.newT {ds : List D} {vs : List V} {Q : VK} (h : PostR K γ W (relV K) μ H σ ρ (.ok (.tup ds) S) Q) (s : Sim K μ σ H ρ S) (r : RepVs K H μ ds vs) :
    ∀ p, H p = none → Q (.ref p) (upd H p (.tup vs)) := fun p hp =>
  h μ _ _ (le_new hp) (s.new hp) (.tup (.of upd_same) (r.mono (le_new hp)))
theorem Sim.write (s : Sim K μ σ H ρ S) {n : Nat} {p : Addr} {vs ws : List V} {xs ds : List D} (hS : S[n]? = some (.lst xs)) (hm : μ[n]? = some p) (hp : H p = some (.lst vs)) (r : RepVs K H μ ds ws) :
    Sim K μ σ (upd H p (.lst ws)) ρ (S.set n (.lst ds)) := ⟨s.e.mono (le_upd hp), s.s.write hS hm hp r⟩

/-! ### operators -/
theorem linesz_eq : linesz = sizeLine := by rw [sizeLine_eq]; rfl
section
variable (K : PySem.W.Frag) (γ : Nat → Value) (W : WX)
/-- an operation on data, by values -/
def opV (f : D → D → Store → R D) : R2 := fun x y H Q => ∃ μ σ ρ S d e, Sim K μ σ H ρ S ∧ RepV K H μ d x ∧ RepV K H μ e y ∧ PostR K γ W (relV K) μ H σ ρ (f d e S) Q
def unV (f : D → Store → R D) : V → Hp → VK → Prop := fun x H Q => ∃ μ σ ρ S d, Sim K μ σ H ρ S ∧ RepV K H μ d x ∧ PostR K γ W (relV K) μ H σ ρ (f d S) Q
def truV (f : D → Store → R Bool) : V → Hp → (Bool → Hp → Prop) → Prop := fun x H Q => ∃ μ σ ρ S d, Sim K μ σ H ρ S ∧ RepV K H μ d x ∧ PostR K γ W relEq μ H σ ρ (f d S) Q
def callV (f : List D → Store → R D) : List V → Hp → VK → Prop := fun xs H Q => ∃ μ σ ρ S ds, Sim K μ σ H ρ S ∧ RepVs K H μ ds xs ∧ PostR K γ W (relV K) μ H σ ρ (f ds S) Q
def methV (f : D → List D → Store → R D) : V → List V → Hp → VK → Prop := fun x xs H Q => ∃ μ σ ρ S d ds, Sim K μ σ H ρ S ∧ RepV K H μ d x ∧ RepVs K H μ ds xs ∧ PostR K γ W (relV K) μ H σ ρ (f d ds S) Q
def slV (f : D → Option Int → Option Int → Store → R D) : V → Option Int → Option Int → Hp → VK → Prop := fun x lo hi H Q => ∃ μ σ ρ S d, Sim K μ σ H ρ S ∧ RepV K H μ d x ∧ PostR K γ W (relV K) μ H σ ρ (f d lo hi S) Q
end
variable {X : Cx}
theorem bin_add : OpR X (binaryOp .Add) (opV X.K γ W (bin2 .add)) := by
  refine opR_imp (op_add.or (op_add_str.or (op_catA.or op_cat))) fun x y H Q ⟨μ, σ, ρ, S, d, e, s, rx, ry, h⟩ => ?_
  cases d <;> cases e <;> first | (exfalso; exact h) | skip
  · cases rx; cases ry
    exact .inl ⟨_, _, rfl, rfl, h.here s (.int _)⟩
  · cases rx; cases ry
    simp only [bin2] at h
    split at h
    · exact .inr (.inl ⟨_, _, rfl, rfl, by rw [← linesz_eq]; assumption, h.here s (.str _)⟩)
    · exact h.elim
  · cases rx with
    | tup h1 r1 =>
      cases ry with
      | tup h2 r2 =>
        simp only [bin2] at h
        split at h
        case isFalse => exact h.elim
        case isTrue hz =>
          refine .inr (.inr (.inl ⟨_, _, _, _, rfl, rfl, h1, h2, by rw [r1.length, r2.length, ← linesz_eq]; exact hz, ?_, ?_, ?_⟩))
          · intro e; subst e
            cases r1
            exact h.here s (.tup h2 r2)
          · intro _ e; subst e
            cases r2
            rw [List.append_nil] at h
            exact h.here s (.tup h1 r1)
          · intro _ _
            exact h.newT s (r1.append r2)
  · simp only [bin2] at h
    split at h
    case h_2 => exact h.elim
    case h_1 h1 h2 =>
      split at h
      case isFalse => exact h.elim
      case isTrue hz =>
        obtain ⟨a, vs, rfl, g1, r1, _⟩ := s.list rx h1
        obtain ⟨b, ws, rfl, g2, r2, _⟩ := s.list ry h2
        exact .inr (.inr (.inr ⟨a, b, vs, ws, rfl, rfl, g1, g2, by rw [r1.length, r2.length, ← linesz_eq]; exact hz, h.newL s (r1.append r2)⟩))
theorem bin_sub : OpR X (binaryOp .Sub) (opV X.K γ W (bin2 .sub)) := by
  refine opR_imp op_sub fun x y H Q ⟨μ, σ, ρ, S, d, e, s, rx, ry, h⟩ => ?_
  cases d <;> cases e <;> first | (exfalso; exact h) | skip
  cases rx; cases ry
  exact ⟨_, _, rfl, rfl, h.here s (.int _)⟩
theorem tuple_mul1 (l : Addr) (items : Array Value) (n : Nat) (dd : Option Addr) (sl : Array (Option Value)) (u : Tok) :
    Meets (Builtin.«tuple.__mul__» ⟨[.ref l, .int 1 u], []⟩) (fun _ R s => s.heap.get? l = some { cls := .type "tuple", dict := dd, data := .seq items n, slots := sl } ∧ R (.ok (.ret (Value.ref l))) { s with toks := s.toks }) :=
  .of_wp fun prog w A R s h => by
    obtain ⟨hp, g, d, tk, os⟩ := s
    obtain ⟨hl, h⟩ := h
    have f1 := AutoSeq1.idx_int
    have c1 : (items.isEmpty || (1 : Int) == 1) = true := by simp
    wp_walk using AutoSeq1.wpAny_loadPart' hl
    repeat (first
      | (refine wpAny_ite_false (decide_eq_false (by decide)) ?_; wp_walk using AutoSeq1.wpAny_loadPart' hl)
      | (refine wpAny_ite_true (decide_eq_true c1) ?_; wp_walk using AutoSeq1.wpAny_loadPart' hl))
    exact ⟨_, rfl, h⟩
theorem op_repT1 : OpR X (binaryOp .Mult) (fun x y H Q => ∃ l xs, x = .ref l ∧ y = .int 1 ∧ SqT X.K H l xs ∧ Q (.ref l) H) := by
  intro pins s σ H x y v u Q I rx ry h
  obtain ⟨l, xs, rfl, rfl, hT, q⟩ := h
  cases rx
  obtain ⟨t, rfl⟩ := ry
  obtain ⟨its, r, ⟨⟨cls, dd, data, sl⟩, ho, hc, n, hd⟩, hs⟩ := I.tuple hT
  simp only at hc hd
  subst hc hd
  refine wpAny_binaryOp_repeat_ref (T := "tuple") (U := "int") (by decide) ⟨_, ho, rfl⟩ (fun s' => typeIs_int s' 1 t) noFill_tuple_mul F.fills_int_mul F.slot_int_rmul repeat_tuple F.slot_int_index.lookup
    (call_meets F.slot_int_rmul (typeIs_int s 1 t) F.entry_int_rmul (F.args_int_rmul_2 _ _) (int_rmul_tuple 1 t l its.toArray n dd sl)
      ⟨ho, rfl, ⟨_, ho, rfl⟩, call_meets F.slot_tuple_mul ⟨_, ho, rfl⟩ F.entry_tuple_mul (F.args_tuple_mul_2 _ _) (tuple_mul1 l its.toArray n dd sl t) ⟨ho, ?_⟩⟩)
  exact ⟨.ref l, H, I, rfl, q⟩
theorem tuple_mul0 (l : Addr) (items : Array Value) (n : Nat) (dd : Option Addr) (sl : Array (Option Value)) (u : Tok) (hne : items.isEmpty = false) :
    Meets (Builtin.«tuple.__mul__» ⟨[.ref l, .int 0 u], []⟩) (fun _ R s => s.heap.get? l = some { cls := .type "tuple", dict := dd, data := .seq items n, slots := sl } ∧
      R (.ok (.ret (Value.ref s.heap.objs.size))) { s with heap := s.heap.push { cls := Value.type "tuple", data := Data.seq #[] }, toks := s.toks }) :=
  .of_wp fun prog w A R s h => by
    obtain ⟨hp, g, d, tk, os⟩ := s
    obtain ⟨hl, h⟩ := h
    have f1 := AutoSeq1.idx_int
    have c1 : (items.isEmpty || (0 : Int) == 1) = false := by rw [hne]; rfl
    have c2 : (decide ((0 : Int) ≤ 0) || items.isEmpty) = true := rfl
    have hsz : (#[] : Array Value).size ≤ sizeLine := Nat.zero_le _
    wp_walk using AutoSeq1.wpAny_loadPart' hl
    repeat (first
      | (refine wpAny_ite_false (decide_eq_false (by decide)) ?_; wp_walk using AutoSeq1.wpAny_loadPart' hl)
      | (refine wpAny_ite_false (decide_eq_false (by rw [c1]; exact Bool.false_ne_true)) ?_; wp_walk using AutoSeq1.wpAny_loadPart' hl)
      | (refine wpAny_ite_true (decide_eq_true c2) ?_; wp_walk using AutoSeq1.wpAny_loadPart' hl)
      | (refine wpAny_ite_false (decide_eq_false (Nat.not_lt.mpr hsz)) ?_; wp_walk using AutoSeq1.wpAny_loadPart' hl))
    exact ⟨_, rfl, h⟩
theorem op_repT0 : OpR X (binaryOp .Mult) (fun x y H Q => ∃ l xs, x = .ref l ∧ y = .int 0 ∧ SqT X.K H l xs ∧ xs ≠ [] ∧ ∀ p, H p = none → Q (.ref p) (upd H p (.tup []))) := by
  intro pins s σ H x y v u Q I rx ry h
  obtain ⟨l, xs, rfl, rfl, hT, hne, q⟩ := h
  cases rx
  obtain ⟨t, rfl⟩ := ry
  obtain ⟨its, r, ⟨⟨cls, dd, data, sl⟩, ho, hc, n, hd⟩, hs⟩ := I.tuple hT
  simp only at hc hd
  subst hc hd
  have hn : its.toArray.isEmpty = false := by
    cases r with
    | nil => exact absurd rfl hne
    | cons => rfl
  refine wpAny_binaryOp_repeat_ref (T := "tuple") (U := "int") (by decide) ⟨_, ho, rfl⟩ (fun s' => typeIs_int s' 0 t) noFill_tuple_mul F.fills_int_mul F.slot_int_rmul repeat_tuple F.slot_int_index.lookup
    (call_meets F.slot_int_rmul (typeIs_int s 0 t) F.entry_int_rmul (F.args_int_rmul_2 _ _) (int_rmul_tuple 0 t l its.toArray n dd sl)
      ⟨ho, rfl, ⟨_, ho, rfl⟩, call_meets F.slot_tuple_mul ⟨_, ho, rfl⟩ F.entry_tuple_mul (F.args_tuple_mul_2 _ _) (tuple_mul0 l its.toArray n dd sl t hn) ⟨ho, ?_⟩⟩)
  refine ⟨.ref s.heap.objs.size, _, I.laid (t' := s.toks) (o := .tup []) (fun b ob q => Heap.get?_push_of_some _ q) (Nat.le_refl _) ?_, rfl, q _ (I.hok.fresh (Nat.le_refl _))⟩
  exact ⟨Nat.zero_le _, [], .nil, IsTup.new _ _⟩
theorem bin_mul : OpR X (binaryOp .Mult) (opV X.K γ W (bin2 .mul)) := by
  refine opR_imp (op_mul.or (op_rep.or (op_repT.or (op_repT1.or op_repT0)))) fun x y H Q ⟨μ, σ, ρ, S, d, e, s, rx, ry, h⟩ => ?_
  cases d <;> cases e <;> first | (exfalso; exact h) | skip
  · cases rx; cases ry
    simp only [bin2] at h
    split at h
    case isFalse => exact h.elim
    case isTrue hz => exact .inl ⟨_, _, rfl, rfl, hz, h.here s (.int _)⟩
  · cases ry
    cases rx with
    | tup h1 r1 =>
      simp only [bin2] at h
      split at h
      case isTrue hz =>
        refine .inr (.inr (.inl ⟨_, _, _, rfl, rfl, h1, fun e => ?_, hz.1, hz.2.1, by rw [r1.length]; exact hz.2.2.1, h.newT s (r1.rep _)⟩))
        subst e
        cases r1
        simp at hz
      case isFalse =>
        split at h
        case isFalse =>
          split at h
          case isFalse => exact h.elim
          case isTrue hk =>
            obtain ⟨rfl, he⟩ := hk
            refine .inr (.inr (.inr (.inr ⟨_, _, rfl, rfl, h1, fun e => ?_, h.newT s .nil⟩)))
            subst e
            cases r1
            simp at he
        case isTrue hk =>
          subst hk
          exact .inr (.inr (.inr (.inl ⟨_, _, rfl, rfl, h1, h.here s (.tup h1 r1)⟩)))
  · cases ry
    simp only [bin2] at h
    split at h
    case h_2 => exact h.elim
    case h_1 h1 =>
      split at h
      case isFalse => exact h.elim
      case isTrue hz =>
        obtain ⟨a, vs, rfl, g1, r1, _⟩ := s.list rx h1
        refine .inr (.inl ⟨a, _, vs, rfl, rfl, g1, by simpa using hz.1, by simpa using hz.2.1, by rw [r1.length, ← linesz_eq]; exact hz.2.2, h.newL s (r1.rep _)⟩)
theorem bin_fdiv : OpR X (binaryOp .FloorDiv) (opV X.K γ W (bin2 .fdiv)) := by
  refine opR_imp op_fdiv fun x y H Q ⟨μ, σ, ρ, S, d, e, s, rx, ry, h⟩ => ?_
  cases d <;> cases e <;> first | (exfalso; exact h) | skip
  cases rx; cases ry
  simp only [bin2] at h
  split at h
  case isFalse => exact h.elim
  case isTrue hz => exact ⟨_, _, rfl, rfl, hz, h.here s (.int _)⟩
theorem bin_mod : OpR X (binaryOp .Mod) (opV X.K γ W (bin2 .mod)) := by
  refine opR_imp op_mod fun x y H Q ⟨μ, σ, ρ, S, d, e, s, rx, ry, h⟩ => ?_
  cases d <;> cases e <;> first | (exfalso; exact h) | skip
  cases rx; cases ry
  simp only [bin2] at h
  split at h
  case isFalse => exact h.elim
  case isTrue hz => exact ⟨_, _, rfl, rfl, hz, h.here s (.int _)⟩
theorem bin_pow : OpR X (binaryOp .Pow) (opV X.K γ W (bin2 .pow)) := by
  refine opR_imp op_pow fun x y H Q ⟨μ, σ, ρ, S, d, e, s, rx, ry, h⟩ => ?_
  cases d <;> cases e <;> first | (exfalso; exact h) | skip
  cases rx; cases ry
  simp only [bin2] at h
  split at h
  case isFalse => exact h.elim
  case isTrue hz => exact ⟨_, _, rfl, rfl, by simpa [CPow] using hz, h.here s (.int _)⟩
def opOf : B2 → Operator
  | .add => .Add | .sub => .Sub | .mul => .Mult | .fdiv => .FloorDiv | .mod => .Mod | .pow => .Pow
theorem bin_all (o : B2) : OpR X (binaryOp (opOf o)) (opV X.K γ W (bin2 o)) := by
  cases o
  · exact bin_add
  · exact bin_sub
  · exact bin_mul
  · exact bin_fdiv
  · exact bin_mod
  · exact bin_pow
theorem neg_ok : UnR X (unaryOp .USub) (unV X.K γ W negR) := by
  refine unR_imp un_neg fun x H Q ⟨μ, σ, ρ, S, d, s, rx, h⟩ => ?_
  cases d <;> first | (exfalso; exact h) | skip
  cases rx
  exact ⟨_, rfl, h.here s (.int _)⟩
end
end Ng

set_option Elab.async false
set_option linter.all false
set_option maxRecDepth 100000
set_option maxHeartbeats 2000000
/-! Comparisons, truth, built-ins by values. -/
namespace Ng
open PySem PySem.Spec PyProof.Rows L2
section
variable {K : PySem.W.Frag} {γ : Nat → Value} {W : WX} {μ μ1 : Mu} {H H1 : Hp} {σ : L2.St} {ρ : Env} {S : Store}

/-! ### == -/
mutual
theorem dp_of {rf : Nat → Option PyData} (hr : ∀ n a p, rf n = some p → μ[n]? = some a → Dp K H (.ref a) p) : ∀ (d : D) (v : V) (p : PyData), RepV K H μ d v → toPyW rf d = some p → Dp K H v p
  | .non, _, _, .non, e => by simp only [toPyW, Option.some.injEq] at e; subst e; exact .non
  | .bl b, _, _, .bl _, e => by simp only [toPyW, Option.some.injEq] at e; subst e; exact .bl b
  | .int i, _, _, .int _, e => by simp only [toPyW, Option.some.injEq] at e; subst e; exact .int i
  | .str x, _, _, .str _, e => by simp only [toPyW, Option.some.injEq] at e; subst e; exact .str x
  | .tup ds, _, _, .tup h r, e => by
    simp only [toPyW, Option.map_eq_some_iff] at e
    obtain ⟨ps, e1, rfl⟩ := e
    exact .tup h (dps_of hr ds _ ps r e1)
  | .ref n, _, _, .ref h, e => hr n _ _ e h
  | .exc .., _, _, _, e => by simp [toPyW] at e
theorem dps_of {rf : Nat → Option PyData} (hr : ∀ n a p, rf n = some p → μ[n]? = some a → Dp K H (.ref a) p) : ∀ (ds : List D) (vs : List V) (ps : List PyData), RepVs K H μ ds vs → toPysW rf ds = some ps → DpAll K H vs ps
  | [], _, _, .nil, e => by simp only [toPysW, Option.some.injEq] at e; subst e; exact .nil
  | d :: ds, _, _, .cons h r, e => by
    simp only [toPysW] at e
    split at e
    case h_1 e1 e2 => cases e; exact .cons (dp_of hr d _ _ h e1) (dps_of hr ds _ _ r e2)
    case h_2 => cases e
end
theorem dp_cell (s : Sim K μ σ H ρ S) : ∀ (k n : Nat) (a : Addr) (p : PyData), toPyN S k n = some p → μ[n]? = some a → Dp K H (.ref a) p
  | 0, _, _, _, e, _ => by simp [toPyN] at e
  | k + 1, n, a, p, e, hm => by
    simp only [toPyN] at e
    split at e
    case h_1 ds h =>
      simp only [Option.map_eq_some_iff] at e
      obtain ⟨ps, e1, rfl⟩ := e
      obtain ⟨vs, h1, r⟩ := s.s.cell n _ _ h hm
      exact .lst (.of h1) (dps_of (fun n a p => dp_cell s k n a p) ds vs ps r e1)
    case h_2 ds h =>
      simp only [Option.map_eq_some_iff] at e
      obtain ⟨ps, e1, rfl⟩ := e
      obtain ⟨vs, h1, r⟩ := s.s.cell n _ _ h hm
      exact .lst h1.sq (dps_of (fun n a p => dp_cell s k n a p) ds vs ps r e1)
    case h_3 => cases e
theorem dp_sim (s : Sim K μ σ H ρ S) {d : D} {v : V} {p : PyData} (r : RepV K H μ d v) (e : toPy S d = some p) : Dp K H v p :=
  dp_of (fun n a p => dp_cell s 6 n a p) d v p r e
/-- what == asks of the values -/
theorem eq_sim (s : Sim K μ σ H ρ S) {x y : D} {v u : V} {b : Bool} (rx : RepV K H μ x v) (ry : RepV K H μ y u) (e : eqD0 S x y = some b) :
    (scal v u = true ∧ decide (v = u) = b) ∨ ∃ d e, Dp K H v d ∧ Dp K H u e ∧ SeqAt.shaped d = true ∧ SeqAt.shaped e = true ∧ PyData.eqv d e = b := by
  unfold eqD0 at e
  split at e
  · cases rx; cases ry; cases e; exact .inl ⟨rfl, by simp⟩
  · cases rx; cases ry; cases e; exact .inl ⟨rfl, by simp⟩
  · cases rx; cases ry; cases e; exact .inl ⟨rfl, by simp⟩
  · cases rx; cases ry; cases e; exact .inl ⟨rfl, by simp⟩
  · split at e
    case h_1 e1 e2 =>
      split at e
      case isTrue hs =>
        rw [Bool.and_eq_true] at hs
        cases e
        exact .inr ⟨_, _, dp_sim s rx e1, dp_sim s ry e2, hs.1, hs.2, rfl⟩
      case isFalse => cases e
    case h_2 => cases e
/-! ### dicts -/
theorem Sim.dct (s : Sim K μ σ H ρ S) {n : Nat} {kvs : List (List Int × D)} {v : V} (r : RepV K H μ (.ref n) v) (h : S[n]? = some (.dct kvs)) : ∃ a xs, v = .ref a ∧ H a = some (DX a xs) ∧ KVX K H μ kvs xs ∧ μ[n]? = some a := by
  cases r with
  | ref hm =>
    obtain ⟨xs, h1, h2⟩ := s.s.cell n _ _ h hm
    exact ⟨_, xs, rfl, h1, h2, hm⟩
theorem nt_dx {a : Addr} {xs : List (List Int × Addr × Value)} : NT (DX a xs) := ⟨(fun _ z => nomatch z), (fun _ _ z => nomatch z)⟩
theorem ints_rep : ∀ {ds : List D} {k : List Int} {vs : List V}, RepVs K H μ ds vs → intsD ds = some k → vs = k.map V.int
  | _, k, _, .nil, e => by cases e; rfl
  | d :: ds, k, _, .cons r rs, e => by
    cases d <;> simp only [intsD] at e <;> first | (cases e; done) | skip
    rename_i i
    cases e2 : intsD ds with
    | none => rw [e2] at e; cases e
    | some k' =>
      rw [e2] at e
      cases e
      cases r
      rw [ints_rep rs e2]; rfl
theorem key_rep {d : D} {v : V} {k : List Int} (r : RepV K H μ d v) (e : keyI d = some k) : ∃ b, v = .ref b ∧ SqT K H b (k.map V.int) := by
  cases r <;> simp only [keyI] at e <;> first | (cases e; done) | skip
  rename_i h rs
  exact ⟨_, rfl, by rw [← ints_rep rs e]; exact h⟩
theorem KVX.kx {kvs : List (List Int × D)} {xs : List (List Int × Addr × Value)} (r : KVX K H μ kvs xs) : KX K H xs := by
  intro x hx
  induction r with
  | nil => cases hx
  | cons h t ih =>
    rcases List.mem_cons.mp hx with rfl | hx
    · exact h.2.1
    · exact ih hx
theorem dGet_cons {p : List Int × D} {r : List (List Int × D)} {k : List Int} : dGet (p :: r) k = if p.1 = k then some p.2 else dGet r k := by
  unfold dGet
  by_cases h : p.1 = k <;> simp [List.find?_cons, h]
theorem atKey_cons {p : List Int × Addr × Value} {r : List (List Int × Addr × Value)} {k : List Int} : atKey (p :: r) k = if p.1 = k then some p.2 else atKey r k := by
  unfold atKey
  by_cases h : p.1 = k <;> simp [List.find?_cons, h]
theorem KVX.get {kvs : List (List Int × D)} {xs : List (List Int × Addr × Value)} (r : KVX K H μ kvs xs) (k : List Int) :
    match dGet kvs k with | some d => ∃ p v, atKey xs k = some p ∧ RepV K H μ d v ∧ RelV v p.2 | none => atKey xs k = none := by
  induction r with
  | nil => rfl
  | @cons p q ps qs h t ih =>
    obtain ⟨h1, h2, v, h3, h4⟩ := h
    rw [dGet_cons, atKey_cons, ← h1]
    by_cases e : p.1 = k
    · rw [if_pos e, if_pos e]; exact ⟨_, v, rfl, h3, h4⟩
    · rw [if_neg e, if_neg e]; exact ih
theorem KVX.isS {kvs : List (List Int × D)} {xs : List (List Int × Addr × Value)} (r : KVX K H μ kvs xs) (k : List Int) : (atKey xs k).isSome = (dGet kvs k).isSome := by
  have := r.get k
  cases h : dGet kvs k with
  | none => rw [h] at this; have this : atKey xs k = none := this; rw [this]; rfl
  | some d => rw [h] at this; obtain ⟨p, v, e, _⟩ := this; rw [e]; rfl
theorem KVX.length {kvs : List (List Int × D)} {xs : List (List Int × Addr × Value)} (r : KVX K H μ kvs xs) : kvs.length = xs.length := Paired.length r
theorem KVX.repl {kvs : List (List Int × D)} {xs : List (List Int × Addr × Value)} (r : KVX K H μ kvs xs) (k : List Int) {d : D} {v : V} {u : Value} (rv : RepV K H μ d v) (ru : RelV v u) :
    KVX K H μ (kvs.map fun p => if p.1 = k then (p.1, d) else p) (xs.map (putAt k u)) := by
  induction r with
  | nil => exact .nil
  | @cons p q ps qs h t ih =>
    rw [List.map_cons, List.map_cons]
    refine .cons ?_ ih
    obtain ⟨h1, h2, h3⟩ := h
    unfold putAt
    rw [← h1]
    by_cases e : p.1 = k
    · rw [if_pos e, if_pos e]; exact ⟨rfl, by rw [h1]; exact h2, v, rv, ru⟩
    · rw [if_neg e, if_neg e]; exact ⟨h1, h2, h3⟩
theorem KVX.put {kvs : List (List Int × D)} {xs : List (List Int × Addr × Value)} (r : KVX K H μ kvs xs) {k : List Int} {b : Addr} {d : D} {v : V} {u : Value} (hb : SqT K H b (k.map V.int)) (rv : RepV K H μ d v) (ru : RelV v u) :
    KVX K H μ (dPut kvs k d) (storedH xs k b u) := by
  unfold dPut storedH
  rw [r.isS k]
  by_cases q : (dGet kvs k).isSome = true
  · rw [if_pos q, if_pos q]; exact r.repl k rv ru
  · rw [if_neg q, if_neg q]; exact Paired.snoc r ⟨rfl, hb, v, rv, ru⟩
theorem KVX.del {kvs : List (List Int × D)} {xs : List (List Int × Addr × Value)} (r : KVX K H μ kvs xs) (k : List Int) : KVX K H μ (dDel kvs k) (withoutH xs k) := by
  unfold dDel withoutH
  induction r with
  | nil => exact .nil
  | @cons p q ps qs h t ih =>
    rw [List.filter_cons, List.filter_cons, ← h.1]
    by_cases e : p.1 = k
    · simp only [e, ne_eq, not_true, decide_false, Bool.false_eq_true, if_false]; exact ih
    · simp only [e, ne_eq, not_false_eq_true, decide_true, if_true]; exact .cons h ih
/-! ### dicts with text keys -/
theorem Sim.dk (s : Sim K μ σ H ρ S) {n : Nat} {kvs : List (L2.Key × D)} {v : V} (r : RepV K H μ (.ref n) v) (h : S[n]? = some (.dk kvs)) : ∃ a gs, v = .ref a ∧ H a = some (.dK gs) ∧ gs.map (·.1) = kvs.map (·.1) ∧ RepVs K H μ (kvs.map (·.2)) (gs.map (·.2)) ∧ μ[n]? = some a := by
  cases r with
  | ref hm =>
    obtain ⟨o, h1, h2⟩ := s.s.cell n _ _ h hm
    cases o <;> first | exact h2.elim | skip
    exact ⟨_, _, rfl, h1, h2.1, h2.2, hm⟩
theorem Sim.hid (s : Sim K μ σ H ρ S) {n : Nat} {kvs : List (List Int × D)} {v : V} (r : RepV K H μ (.ref n) v) (h : S[n]? = some (.hid kvs)) : ∃ a o xs, v = .ref a ∧ H a = some (.frz o (DX a xs)) ∧ KVX K H μ kvs xs ∧ μ[n]? = some a := by
  cases r with
  | ref hm =>
    obtain ⟨o, xs, h1, h2⟩ := s.s.cell n _ _ h hm
    exact ⟨_, o, xs, rfl, h1, h2, hm⟩
theorem nt_dk {gs : List (L2.Key × V)} : NT (.dK gs) := ⟨(fun _ z => nomatch z), (fun _ _ z => nomatch z)⟩
theorem dk_get : ∀ {kvs : List (L2.Key × D)} {gs : List (L2.Key × V)}, gs.map (·.1) = kvs.map (·.1) → RepVs K H μ (kvs.map (·.2)) (gs.map (·.2)) → ∀ {k : L2.Key} {d : D}, kGet kvs k = some d → ∃ v, valV gs k = some v ∧ RepV K H μ d v
  | [], [], _, _, k, d, e => by cases e
  | [], _ :: _, h, _, _, _, _ => by simp at h
  | _ :: _, [], h, _, _, _, _ => by simp at h
  | p :: kvs, q :: gs, h, r, k, d, e => by
    simp only [List.map_cons, List.cons.injEq] at h
    cases r with
    | cons r1 rs =>
      unfold kGet at e
      unfold valV
      rw [List.find?_cons] at e ⊢
      rw [h.1]
      by_cases z : p.1 = k
      · simp only [z, decide_true, Option.map_some, Option.some.injEq] at e ⊢
        exact ⟨_, rfl, e ▸ r1⟩
      · simp only [z, decide_false] at e ⊢
        exact dk_get h.2 rs e
theorem dk_any {kvs : List (L2.Key × D)} {gs : List (L2.Key × V)} (h : gs.map (·.1) = kvs.map (·.1)) (k : L2.Key) : (gs.any fun p => decide (p.1 = k)) = kvs.any fun p => decide (p.1 = k) := by
  have e1 : (gs.any fun p => decide (p.1 = k)) = (gs.map (·.1)).any fun x => decide (x = k) := by rw [List.any_map]; rfl
  have e2 : (kvs.any fun p => decide (p.1 = k)) = (kvs.map (·.1)).any fun x => decide (x = k) := by rw [List.any_map]; rfl
  rw [e1, e2, h]
theorem dk_repl {k : L2.Key} {d : D} {v : V} (rv : RepV K H μ d v) : ∀ {kvs : List (L2.Key × D)} {gs : List (L2.Key × V)}, gs.map (·.1) = kvs.map (·.1) → RepVs K H μ (kvs.map (·.2)) (gs.map (·.2)) →
    (gs.map fun p => if p.1 = k then (p.1, v) else p).map (·.1) = (kvs.map fun p => if p.1 = k then (p.1, d) else p).map (·.1) ∧ RepVs K H μ ((kvs.map fun p => if p.1 = k then (p.1, d) else p).map (·.2)) ((gs.map fun p => if p.1 = k then (p.1, v) else p).map (·.2))
  | [], [], _, _ => ⟨rfl, .nil⟩
  | [], _ :: _, h, _ => by simp at h
  | _ :: _, [], h, _ => by simp at h
  | p :: kvs, q :: gs, h, r => by
    simp only [List.map_cons, List.cons.injEq] at h
    cases r with
    | cons r1 rs =>
      obtain ⟨i1, i2⟩ := dk_repl rv h.2 rs
      simp only [List.map_cons, List.cons.injEq]
      rw [h.1]
      by_cases z : p.1 = k
      · simp only [z, if_true]; exact ⟨⟨trivial, i1⟩, .cons rv i2⟩
      · simp only [z, if_false]; exact ⟨⟨h.1, i1⟩, .cons r1 i2⟩
theorem dk_put {kvs : List (L2.Key × D)} {gs : List (L2.Key × V)} (h : gs.map (·.1) = kvs.map (·.1)) (r : RepVs K H μ (kvs.map (·.2)) (gs.map (·.2))) {k : L2.Key} {d : D} {v : V} (rv : RepV K H μ d v) :
    (putK gs k v).map (·.1) = (kPut kvs k d).map (·.1) ∧ RepVs K H μ ((kPut kvs k d).map (·.2)) ((putK gs k v).map (·.2)) := by
  unfold putK kPut
  rw [dk_any h]
  by_cases z : (kvs.any fun p => decide (p.1 = k)) = true
  · rw [if_pos z, if_pos z]; exact dk_repl rv h r
  · rw [if_neg z, if_neg z]
    simp only [List.map_append, List.map_cons, List.map_nil, h]
    exact ⟨trivial, r.append (.cons rv .nil)⟩
theorem dPut_len (kvs : List (List Int × D)) (k : List Int) (d : D) : (dPut kvs k d).length ≤ kvs.length + 1 := by
  unfold dPut; split <;> simp
theorem KVX.puts : ∀ {ps : List (List Int × D)} {qs : List (List Int × Addr × V)} {rs : List (List Int × Addr × Value)} {kvs : List (List Int × D)} {xs : List (List Int × Addr × Value)},
    Paired (fun (p : List Int × D) (q : List Int × Addr × V) => p.1 = q.1 ∧ SqT K H q.2.1 (q.1.map V.int) ∧ RepV K H μ p.2 q.2.2) ps qs → KVs qs rs → KVX K H μ kvs xs → KVX K H μ (dPuts kvs ps) (storedAllH xs rs)
  | [], _, _, _, _, .nil, .nil, r => r
  | p :: ps, q :: qs, x :: rs, kvs, xs, .cons h t, .cons h2 t2, r => by
    obtain ⟨a1, a2, a3⟩ := h
    obtain ⟨b1, b2, b3⟩ := h2
    show KVX K H μ (dPuts (dPut kvs p.1 p.2) ps) (storedAllH (storedH xs x.1 x.2.1 x.2.2) rs)
    refine KVX.puts t t2 ?_
    rw [a1, ← b1, ← b2]
    exact r.put a2 a3 b3
/-- a display is filled -/
theorem dd_done {γ : Nat → Value} {W : WX} {n : Nat} {p : Addr} {ps : List (D × D)} {vs : List (V × V)} {Q : VK} (s : Sim K μ σ H ρ S) (hm : μ[n]? = some p) (hps : Paired (fun (a : D × D) (b : V × V) => RepV K H μ a.1 b.1 ∧ RepV K H μ a.2 b.2) ps vs) (hl : ps.length ≤ 15)
    (q : PostR K γ W (relV K) μ H σ ρ (ddR n ps S) Q) :
    ∃ kvs : List (List Int × Addr × V), vs = kvs.map (fun q => (V.ref q.2.1, q.2.2)) ∧ H p = some (DX p []) ∧ (∀ q ∈ kvs, SqT K H q.2.1 (q.1.map V.int)) ∧ kvs.length ≤ 15 ∧ ∀ rs, KVs kvs rs → Q (.ref p) (upd H p (DX p (storedAllH [] rs))) := by
  unfold ddR at q
  split at q
  case h_2 => exact q.elim
  case h_1 hS =>
    split at q
    case h_2 => exact q.elim
    case h_1 kvs hk =>
      obtain ⟨xs0, hp, rx⟩ := s.s.cell n _ _ hS hm
      cases rx
      have key : ∀ {ps : List (D × D)} {vs : List (V × V)} {kvs : List (List Int × D)}, Paired (fun (a : D × D) (b : V × V) => RepV K H μ a.1 b.1 ∧ RepV K H μ a.2 b.2) ps vs → keysI ps = some kvs →
          ∃ qs : List (List Int × Addr × V), vs = qs.map (fun q => (V.ref q.2.1, q.2.2)) ∧ Paired (fun (p : List Int × D) (q : List Int × Addr × V) => p.1 = q.1 ∧ SqT K H q.2.1 (q.1.map V.int) ∧ RepV K H μ p.2 q.2.2) kvs qs := by
        intro ps vs kvs hps
        induction hps generalizing kvs with
        | nil => intro e; cases e; exact ⟨[], rfl, .nil⟩
        | @cons a b as bs h t ih =>
          intro e
          simp only [keysI] at e
          split at e
          case h_2 => cases e
          case h_1 k ks e1 e2 =>
            cases e
            obtain ⟨qs, rfl, pq⟩ := ih e2
            obtain ⟨ad, hv, hq⟩ := key_rep h.1 e1
            exact ⟨(k, ad, b.2) :: qs, by rw [List.map_cons, ← hv], .cons ⟨rfl, hq, h.2⟩ pq⟩
      obtain ⟨qs, rfl, pq⟩ := key hps hk
      have lq := Paired.length pq
      have l2 := Paired.length hps
      rw [List.length_map] at l2
      have kq : ∀ {ps : List (List Int × D)} {qs : List (List Int × Addr × V)}, Paired (fun (p : List Int × D) (q : List Int × Addr × V) => p.1 = q.1 ∧ SqT K H q.2.1 (q.1.map V.int) ∧ RepV K H μ p.2 q.2.2) ps qs → ∀ q ∈ qs, SqT K H q.2.1 (q.1.map V.int) := by
        intro ps qs r
        induction r with
        | nil => intro q hq; cases hq
        | cons h t ih =>
          intro q hq
          rcases List.mem_cons.mp hq with rfl | hq
          · exact h.2.1
          · exact ih q hq
      refine ⟨qs, rfl, hp, kq pq, by omega, fun rs hr => ?_⟩
      have le : Le K μ H μ (upd H p (DX p (storedAllH [] rs))) := le_updC hp nt_dx
      exact q μ _ _ le ⟨s.e.mono le, s.s.writeC hS hm hp nt_dx rfl rfl ⟨_, upd_same, (KVX.puts pq hr .nil).mono le⟩⟩ (.ref hm)
/-- == of two data, by what they are as PyData -/
theorem eq_dp (s : Sim K μ σ H ρ S) {x y : D} {v u : V} {b : Bool} (rx : RepV K H μ x v) (ry : RepV K H μ y u) (e : eqDp S x y = some b) :
    ∃ d e, Dp K H v d ∧ Dp K H u e ∧ SeqAt.shaped d = true ∧ SeqAt.shaped e = true ∧ PyData.eqv d e = b := by
  unfold eqDp at e
  split at e
  case h_1 e1 e2 =>
    split at e
    case isTrue hs =>
      rw [Bool.and_eq_true] at hs
      cases e
      exact ⟨_, _, dp_sim s rx e1, dp_sim s ry e2, hs.1, hs.2, rfl⟩
    case isFalse => cases e
  case h_2 => cases e
theorem hits_of {X : Cx} {pins : List (Addr × Obj)} {σ' : L2.St} {sh : Shared} (hK : X.K = K) (I : Inv X pins σ' H sh) (hu : X.A.units + 66 < cLine) (s : Sim K μ σ H ρ S) {kb : List (List Int × D)} {xb : List (List Int × Addr × Value)} (rb : KVX K H μ kb xb) :
    ∀ {ka : List (List Int × D)} {xa : List (List Int × Addr × Value)} {r : Bool}, KVX K H μ ka xa → eqKvs S kb ka = some r → HitsH X.prog X.w X.A.in1 sh xb xa r
  | _, _, r, .nil, e => by cases e; exact .nil
  | (k, d) :: ka, (k', p) :: xa, r, .cons h t, e => by
    obtain ⟨h1, h2, v, h3, h4⟩ := h
    simp only at h1 h2 h3 h4
    subst h1
    have g := rb.get k
    simp only [eqKvs] at e
    cases hg : dGet kb k with
    | none =>
      rw [hg] at e g
      cases e
      exact .miss g
    | some d2 =>
      rw [hg] at e g
      obtain ⟨q, v2, g1, g2, g3⟩ := g
      simp only at e
      split at e
      case h_2 => cases e
      case h_1 x y e1 e2 =>
        cases e
        obtain ⟨p1, p2, q1, q2, q3, q4, q5⟩ := eq_dp s h3 g2 e1
        have ih := hits_of hK I hu s rb t e2
        subst hK
        obtain ⟨as, r1⟩ := Dp.reads I p1 v p.2 q1 h4
        obtain ⟨bs, r2⟩ := Dp.reads I p2 v2 q.2 q2 g3
        have ea := PySem.W.keq_at (A := X.A) r1 r2 q3 q4 (by show X.A.units + 1 + 64 < cLine; omega)
        rw [q5] at ea
        exact .hit g1 ea.eqP ih
theorem RepV.flat {d : D} {v : V} (r : RepV K H μ d v) (h : flatD d = true) : flatV v = true := by
  cases r <;> first | rfl | simp [flatD] at h
theorem RepVs.flat : ∀ {ds : List D} {vs : List V}, RepVs K H μ ds vs → ds.all flatD = true → vs.all flatV = true
  | _, _, .nil, _ => rfl
  | _, _, .cons r rs, h => by
    simp only [List.all_cons, Bool.and_eq_true] at h ⊢
    exact ⟨r.flat h.1, RepVs.flat rs h.2⟩
theorem eqF_of {x y : D} {v u : V} (rx : RepV K H μ x v) (ry : RepV K H μ y u) (hx : flatD x = true) (hy : flatD y = true) : eqV u v = eqF y x := by
  cases rx <;> cases ry <;> first | rfl | (simp [flatD] at hx; done) | (simp [flatD] at hy; done) | (simp only [eqV, eqF, Bool.beq_eq_decide_eq]) | simp only [eqV, eqF]
theorem inF_of {x : D} {v : V} (rx : RepV K H μ x v) (hx : flatD x = true) : ∀ {ds : List D} {vs : List V}, RepVs K H μ ds vs → ds.all flatD = true → inV v vs = inF x ds
  | _, _, .nil, _ => rfl
  | _, _, .cons r rs, h => by
    simp only [List.all_cons, Bool.and_eq_true] at h
    have ih := inF_of rx hx rs h.2
    unfold inV inF at ih ⊢
    simp only [List.any_cons]
    rw [eqF_of rx r hx h.1, ih]
theorem lex_of : ∀ {xs ys : List D} {vs us : List V} {b : Bool}, RepVs K H μ xs vs → RepVs K H μ ys us → lexD xs ys = some b → ∃ ns ms : List Int, vs = ns.map V.int ∧ us = ms.map V.int ∧ HT.lexLt ns ms = b
  | [], [], _, _, _, .nil, .nil, e => by simp only [lexD, Option.some.injEq] at e; exact ⟨[], [], rfl, rfl, by rw [← e]; rfl⟩
  | [], y :: ys, _, _, _, .nil, .cons r rs, e => by
    cases y <;> simp only [lexD] at e <;> first | (cases e; done) | skip
    rename_i j
    simp only [Option.map_eq_some_iff] at e
    obtain ⟨b', e1, rfl⟩ := e
    obtain ⟨ns, ms, h1, h2, _⟩ := lex_of .nil rs e1
    cases r
    cases ns with
    | nil => exact ⟨[], j :: ms, rfl, by rw [h2]; rfl, rfl⟩
    | cons => cases h1
  | x :: xs, [], _, _, _, .cons r rs, .nil, e => by
    cases x <;> simp only [lexD] at e <;> first | (cases e; done) | skip
    rename_i j
    simp only [Option.map_eq_some_iff] at e
    obtain ⟨b', e1, rfl⟩ := e
    obtain ⟨ns, ms, h1, h2, _⟩ := lex_of rs .nil e1
    cases r
    cases ms with
    | nil => exact ⟨j :: ns, [], by rw [h1]; rfl, rfl, rfl⟩
    | cons => cases h2
  | x :: xs, y :: ys, _, _, _, .cons r rs, .cons q qs, e => by
    cases x <;> cases y <;> simp only [lexD] at e <;> first | (cases e; done) | skip
    rename_i i j
    simp only [Option.map_eq_some_iff] at e
    obtain ⟨b', e1, rfl⟩ := e
    obtain ⟨ns, ms, h1, h2, h3⟩ := lex_of rs qs e1
    cases r; cases q
    refine ⟨i :: ns, j :: ms, by rw [h1]; rfl, by rw [h2]; rfl, ?_⟩
    rw [HT.lexLt_cons, h3]
variable {X : Cx}
def cmpOf : CO → CmpOp
  | .eq => .Eq | .ne => .NotEq | .lt => .Lt | .le => .LtE | .gt => .Gt | .ge => .GtE | .is => .Is | .isnot => .IsNot | .in_ => .In | .notin => .NotIn
theorem cmp_here {o : CO} {x y : D} {b : Bool} {Q : VK} (h : PostR K γ W (relV K) μ H σ ρ (cmpR o x y S) Q) (s : Sim K μ σ H ρ S) (e : cmp2 o x y S = some b) : Q (.bl b) H := by
  unfold cmpR at h
  rw [e] at h
  exact h.here s (.bl b)
/-- the comparison is one the engine knows -/
theorem cmp_some {o : CO} {x y : D} {Q : VK} (h : PostR K γ W (relV K) μ H σ ρ (cmpR o x y S) Q) : ∃ b, cmp2 o x y S = some b := by
  unfold cmpR at h
  cases e : cmp2 o x y S with
  | some b => exact ⟨b, rfl⟩
  | none => rw [e] at h; exact h.elim
theorem eqD_cases {x y : D} {b : Bool} (e : eqD S x y = some b) : eqD0 S x y = some b ∨ eqDct S x y = some b := by
  unfold eqD at e
  split at e
  · rename_i b' h; cases e; exact .inl h
  · exact .inr e
theorem eq_dct (s : Sim K μ σ H ρ S) {x y : D} {v u : V} {b : Bool} (rx : RepV K H μ x v) (ry : RepV K H μ y u) (e : eqDct S x y = some b) {neg : Bool} {Q : VK} (q : Q (.bl (b ^^ neg)) H) : rEqX K neg v u H Q := by
  unfold eqDct at e
  split at e
  case h_2 => cases e
  case h_1 m n =>
    split at e
    case h_2 => cases e
    case h_1 ka kb h1 h2 =>
      obtain ⟨a, xa, rfl, ea, ra, _⟩ := s.dct rx h1
      obtain ⟨b', xb, rfl, eb, rb, _⟩ := s.dct ry h2
      have la := ra.length
      have lb := rb.length
      split at e
      case isTrue hl =>
        refine ⟨a, b', xa, xb, b, rfl, rfl, ea, eb, ra.kx, rb.kx, fun X pins σ' sh hK I hu _ => hits_of hK I hu s rb ra e, ?_⟩
        rw [show (xa.length == xb.length) = true from by rw [← la, ← lb, hl]; simp, Bool.true_and]
        exact q
      case isFalse hl =>
        cases e
        refine ⟨a, b', xa, xb, false, rfl, rfl, ea, eb, ra.kx, rb.kx, fun X pins σ' sh hK I hu hz => absurd (by rw [la, lb]; exact hz) hl, ?_⟩
        rw [Bool.and_false]
        exact q
theorem cmp_eq (hu : X.A.units + 66 < cLine) : OpR X (compareOp .Eq) (opV X.K γ W (cmpR .eq)) := by
  refine opR_imp ((op_eq.or (op_eqD (by omega))).or (eq_dx hu)) fun x y H Q ⟨μ, σ, ρ, S, d, e, s, rx, ry, h⟩ => ?_
  obtain ⟨b, e1⟩ := cmp_some h
  have q := cmp_here h s e1
  rcases eqD_cases e1 with e1 | e1
  · rcases eq_sim s rx ry e1 with ⟨h1, h2⟩ | ⟨p, p', h1, h2, h3, h4, h5⟩
    · exact .inl (.inl ⟨h1, by rw [h2]; exact q⟩)
    · exact .inl (.inr ⟨p, p', h1, h2, h3, h4, by rw [h5]; exact q⟩)
  · exact .inr (eq_dct s rx ry e1 (by simpa using q))
theorem cmp_ne (hu : X.A.units + 66 < cLine) : OpR X (compareOp .NotEq) (opV X.K γ W (cmpR .ne)) := by
  refine opR_imp ((op_ne.or (op_neD (by omega))).or (ne_dx hu)) fun x y H Q ⟨μ, σ, ρ, S, d, e, s, rx, ry, h⟩ => ?_
  obtain ⟨b, e1⟩ := cmp_some h
  have q := cmp_here h s e1
  simp only [cmp2, Option.map_eq_some_iff] at e1
  obtain ⟨b', e2, rfl⟩ := e1
  rcases eqD_cases e2 with e2 | e2
  · rcases eq_sim s rx ry e2 with ⟨h1, h2⟩ | ⟨p, p', h1, h2, h3, h4, h5⟩
    · exact .inl (.inl ⟨h1, by rw [h2]; exact q⟩)
    · exact .inl (.inr ⟨p, p', h1, h2, h3, h4, by rw [h5]; exact q⟩)
  · exact .inr (eq_dct s rx ry e2 (by simpa using q))
theorem cmp_lt (hu : X.A.units + 64 < cLine) : OpR X (compareOp .Lt) (opV X.K γ W (cmpR .lt)) := by
  refine opR_imp (op_lt.or (op_ltT (by omega))) fun x y H Q ⟨μ, σ, ρ, S, d, e, s, rx, ry, h⟩ => ?_
  obtain ⟨b, e1⟩ := cmp_some h
  have q := cmp_here h s e1
  cases d <;> cases e <;> simp only [cmp2] at e1 <;> first | (cases e1; done) | skip
  · cases rx; cases ry
    cases e1
    exact .inl ⟨_, _, rfl, rfl, q⟩
  · cases rx with
    | tup h1 r1 =>
      cases ry with
      | tup h2 r2 =>
        obtain ⟨ns, ms, h3, h4, h5⟩ := lex_of r1 r2 e1
        exact .inr ⟨_, _, ns, ms, rfl, rfl, by rw [← h3]; exact h1, by rw [← h4]; exact h2, by rw [h5]; exact q⟩
theorem cmp_le : OpR X (compareOp .LtE) (opV X.K γ W (cmpR .le)) := by
  refine opR_imp op_le fun x y H Q ⟨μ, σ, ρ, S, d, e, s, rx, ry, h⟩ => ?_
  obtain ⟨b, e1⟩ := cmp_some h
  have q := cmp_here h s e1
  cases d <;> cases e <;> simp only [cmp2] at e1 <;> first | (cases e1; done) | skip
  cases rx; cases ry; cases e1
  exact ⟨_, _, rfl, rfl, q⟩
theorem cmp_gt : OpR X (compareOp .Gt) (opV X.K γ W (cmpR .gt)) := by
  refine opR_imp op_gt fun x y H Q ⟨μ, σ, ρ, S, d, e, s, rx, ry, h⟩ => ?_
  obtain ⟨b, e1⟩ := cmp_some h
  have q := cmp_here h s e1
  cases d <;> cases e <;> simp only [cmp2] at e1 <;> first | (cases e1; done) | skip
  cases rx; cases ry; cases e1
  exact ⟨_, _, rfl, rfl, q⟩
theorem cmp_ge : OpR X (compareOp .GtE) (opV X.K γ W (cmpR .ge)) := by
  refine opR_imp op_ge fun x y H Q ⟨μ, σ, ρ, S, d, e, s, rx, ry, h⟩ => ?_
  obtain ⟨b, e1⟩ := cmp_some h
  have q := cmp_here h s e1
  cases d <;> cases e <;> simp only [cmp2] at e1 <;> first | (cases e1; done) | skip
  cases rx; cases ry; cases e1
  exact ⟨_, _, rfl, rfl, q⟩
theorem cmp_is : OpR X (compareOp .Is) (opV X.K γ W (cmpR .is)) := by
  refine opR_imp (op_isBl.or op_isN) fun x y H Q ⟨μ, σ, ρ, S, d, e, s, rx, ry, h⟩ => ?_
  obtain ⟨b, e1⟩ := cmp_some h
  have q := cmp_here h s e1
  cases e with
  | bl b2 =>
    cases d <;> simp only [cmp2] at e1 <;> first | (cases e1; done) | skip
    cases rx; cases ry; cases e1
    exact .inl ⟨_, _, rfl, rfl, q⟩
  | non =>
    cases ry
    refine .inr ⟨rfl, ?_⟩
    cases rx <;> simp only [cmp2] at e1 <;> cases e1 <;> simpa using q
  | _ => cases d <;> simp only [cmp2] at e1 <;> cases e1
theorem cmp_isnot : OpR X (compareOp .IsNot) (opV X.K γ W (cmpR .isnot)) := by
  refine opR_imp (op_notBl.or op_notN) fun x y H Q ⟨μ, σ, ρ, S, d, e, s, rx, ry, h⟩ => ?_
  obtain ⟨b, e1⟩ := cmp_some h
  have q := cmp_here h s e1
  cases e with
  | bl b2 =>
    cases d <;> simp only [cmp2] at e1 <;> first | (cases e1; done) | skip
    cases rx; cases ry; cases e1
    exact .inl ⟨_, _, rfl, rfl, q⟩
  | non =>
    cases ry
    refine .inr ⟨rfl, ?_⟩
    cases rx <;> simp only [cmp2] at e1 <;> cases e1 <;> simpa using q
  | _ => cases d <;> simp only [cmp2] at e1 <;> cases e1
theorem cmp_in (hu : X.A.units + 66 < cLine) : OpR X (compareOp .In) (opV X.K γ W (cmpR .in_)) := by
  refine opR_imp ((op_in_seq.or (op_inD (by omega))).or (in_dx (by omega))) fun x y H Q ⟨μ, σ, ρ, S, d, e, s, rx, ry, h⟩ => ?_
  obtain ⟨b, e1⟩ := cmp_some h
  have q := cmp_here h s e1
  have key : ∀ ds, seqD S e = some ds → (if (flatD d && ds.all flatD) = true then some (inF d ds) else none) = some b → rIn X.K false x y H Q := fun ds hs hi => by
    split at hi
    case isFalse => cases hi
    case isTrue hf =>
      rw [Bool.and_eq_true] at hf
      cases hi
      obtain ⟨a, vs, rfl, hq, r⟩ := s.seq ry hs
      exact ⟨a, vs, rfl, hq, rx.flat hf.1, r.flat hf.2, by rw [inF_of rx hf.1 r hf.2]; exact q⟩
  cases e <;> simp only [cmp2] at e1 <;> first | (cases e1; done) | skip
  · exact .inl (.inl (key _ rfl e1))
  · rename_i n
    split at e1
    · rename_i ds hn
      split at e1
      · rename_i hf
        exact .inl (.inl (key ds (by simp only [seqD, hn]) (by rw [if_pos hf]; exact e1)))
      · refine .inl (.inr ?_)
        have e2 : inN S d ds = some b := by exact e1
        unfold inN at e2
        split at e2
        case h_2 => cases e2
        case h_1 p ps e3 e4 =>
          split at e2
          case isFalse => cases e2
          case isTrue hs =>
            rw [Bool.and_eq_true] at hs
            obtain ⟨a, vs, rfl, h1, r1, hm⟩ := s.list ry hn
            refine ⟨p, ps, dp_sim s rx e3, .lst (.of h1) (dps_of (fun n a p => dp_cell s 6 n a p) ds vs ps r1 e4), hs.1, hs.2, ?_⟩
            rw [Option.some.inj e2]
            exact q
    · rename_i ds hn
      exact .inl (.inl (key ds (by simp only [seqD, hn]) e1))
    · rename_i kvs hn
      rw [Option.map_eq_some_iff] at e1
      obtain ⟨k, hk, rfl⟩ := e1
      obtain ⟨a, xs, rfl, ea, ra, _⟩ := s.dct ry hn
      obtain ⟨b', rfl, hb⟩ := key_rep rx hk
      exact .inr ⟨a, b', xs, k, rfl, rfl, ea, ra.kx, hb, by rw [ra.isS k]; simpa using q⟩
    · cases e1
theorem cmp_notin (hu : X.A.units + 66 < cLine) : OpR X (compareOp .NotIn) (opV X.K γ W (cmpR .notin)) := by
  refine opR_imp ((op_notIn_seq.or (op_notInD (by omega))).or (notIn_dx (by omega))) fun x y H Q ⟨μ, σ, ρ, S, d, e, s, rx, ry, h⟩ => ?_
  obtain ⟨b, e1⟩ := cmp_some h
  have q := cmp_here h s e1
  have key : ∀ ds, seqD S e = some ds → (if (flatD d && ds.all flatD) = true then some !(inF d ds) else none) = some b → rIn X.K true x y H Q := fun ds hs hi => by
    split at hi
    case isFalse => cases hi
    case isTrue hf =>
      rw [Bool.and_eq_true] at hf
      cases hi
      obtain ⟨a, vs, rfl, hq, r⟩ := s.seq ry hs
      exact ⟨a, vs, rfl, hq, rx.flat hf.1, r.flat hf.2, by rw [inF_of rx hf.1 r hf.2]; exact q⟩
  cases e <;> simp only [cmp2] at e1 <;> first | (cases e1; done) | skip
  · exact .inl (.inl (key _ rfl e1))
  · rename_i n
    split at e1
    · rename_i ds hn
      split at e1
      · rename_i hf
        exact .inl (.inl (key ds (by simp only [seqD, hn]) (by rw [if_pos hf]; exact e1)))
      · refine .inl (.inr ?_)
        have e2 : inN S d ds = some (!b) := by (simp only [Option.map_eq_some_iff] at e1; obtain ⟨b1, h1, rfl⟩ := e1; simpa using h1)
        unfold inN at e2
        split at e2
        case h_2 => cases e2
        case h_1 p ps e3 e4 =>
          split at e2
          case isFalse => cases e2
          case isTrue hs =>
            rw [Bool.and_eq_true] at hs
            obtain ⟨a, vs, rfl, h1, r1, hm⟩ := s.list ry hn
            refine ⟨p, ps, dp_sim s rx e3, .lst (.of h1) (dps_of (fun n a p => dp_cell s 6 n a p) ds vs ps r1 e4), hs.1, hs.2, ?_⟩
            rw [Option.some.inj e2]
            exact by simpa using q
    · rename_i ds hn
      exact .inl (.inl (key ds (by simp only [seqD, hn]) e1))
    · rename_i kvs hn
      rw [Option.map_eq_some_iff] at e1
      obtain ⟨k, hk, rfl⟩ := e1
      obtain ⟨a, xs, rfl, ea, ra, _⟩ := s.dct ry hn
      obtain ⟨b', rfl, hb⟩ := key_rep rx hk
      exact .inr ⟨a, b', xs, k, rfl, rfl, ea, ra.kx, hb, by rw [ra.isS k]; simpa using q⟩
    · cases e1
theorem cmp_all (hu : X.A.units + 66 < cLine) (o : CO) : OpR X (compareOp (cmpOf o)) (opV X.K γ W (cmpR o)) := by
  cases o
  · exact cmp_eq (by omega)
  · exact cmp_ne (by omega)
  · exact cmp_lt (by omega)
  · exact cmp_le
  · exact cmp_gt
  · exact cmp_ge
  · exact cmp_is
  · exact cmp_isnot
  · exact cmp_in hu
  · exact cmp_notin hu
/-! ### truth -/
theorem tru_of (s : Sim K μ σ H ρ S) {d : D} {v : V} {b : Bool} (r : RepV K H μ d v) (e : truD S d = some b) : TruV K v H b := by
  cases d with
  | non => cases r; cases e; rfl
  | bl x => cases r; cases e; rfl
  | int i => cases r; cases e; rfl
  | str x =>
    cases r
    simp only [truD] at e
    split at e
    case isTrue h => cases e; exact ⟨by rw [← linesz_eq]; exact h, rfl⟩
    case isFalse => cases e
  | tup ds =>
    cases r with
    | tup h r => cases e; exact .inr (.inl ⟨_, h, by rw [r.isEmpty]⟩)
  | ref n =>
    simp only [truD] at e
    split at e
    · cases e
      obtain ⟨a, vs, rfl, h1, h2, _⟩ := s.list r (by assumption)
      exact .inl ⟨vs, .of h1, by rw [h2.isEmpty]⟩
    · cases e
      obtain ⟨a, vs, rfl, h1, h2, _⟩ := s.roL r (by assumption)
      exact .inl ⟨vs, h1.sq, by rw [h2.isEmpty]⟩
    · cases e
  | exc => cases e
theorem tru_some {d : D} {Q : Bool → Hp → Prop} (h : PostR K γ W relEq μ H σ ρ (truR d S) Q) (s : Sim K μ σ H ρ S) : ∃ b, truD S d = some b ∧ Q b H := by
  unfold truR at h
  cases e : truD S d with
  | some b => rw [e] at h; exact ⟨b, rfl, h.here s rfl⟩
  | none => rw [e] at h; exact h.elim
theorem tru_all : TruR X (truV X.K γ W truR) := by
  refine truR_imp tru_ok fun x H Q ⟨μ, σ, ρ, S, d, s, rx, h⟩ => ?_
  obtain ⟨b, e, q⟩ := tru_some h s
  exact ⟨b, tru_of s rx e, q⟩
/-! ### items, slices -/
theorem atI_rep {ds : List D} {vs : List V} {i : Int} {d : D} (r : RepVs K H μ ds vs) (h : L2.atI ds i = some d) : ∃ v, L2.atI vs i = some v ∧ RepV K H μ d v := by
  unfold L2.atI at h ⊢
  rw [r.length]
  cases e : L2.ixN ds.length i with
  | none => rw [e] at h; cases h
  | some j =>
    rw [e] at h
    obtain ⟨v, h1, h2⟩ := r.get (show ds[j]? = some d from h)
    exact ⟨v, h1, h2⟩
theorem ix_all (hu : X.A.units + 1 < cLine) : IxR X (opV X.K γ W ix2) := by
  refine ixR_imp ((ix_seq.or (ix_dx hu)).or (ix_dk hu)) fun x y H Q ⟨μ, σ, ρ, S, d, e, s, rx, ry, h⟩ => ?_
  by_cases hd : ∃ n ks, d = .ref n ∧ e = .tup ks
  · obtain ⟨n, ks, rfl, rfl⟩ := hd
    left; right
    simp only [ix2] at h
    split at h
    case h_2 => exact h.elim
    case h_1 kvs hn =>
      split at h
      case h_2 => exact h.elim
      case h_1 k hk =>
        split at h
        case h_2 => exact h.elim
        case h_1 dd hg =>
          obtain ⟨a, xs, rfl, ea, ra, _⟩ := s.dct rx hn
          obtain ⟨b', rfl, hb⟩ := key_rep ry (show keyI (.tup ks) = some k from hk)
          have g := ra.get k
          rw [hg] at g
          obtain ⟨p, v, g1, g2, g3⟩ := g
          exact ⟨a, b', xs, k, p, v, rfl, rfl, ea, ra.kx, hb, g1, g3, h.here s g2⟩
  by_cases hk : ∃ n z, d = .ref n ∧ e = .str z
  · obtain ⟨n, z, rfl, rfl⟩ := hk
    right
    simp only [ix2] at h
    split at h
    case h_2 => exact h.elim
    case h_1 kvs hn =>
      split at h
      case h_2 => exact h.elim
      case h_1 dd hg =>
        obtain ⟨a, gs, rfl, ea, g1, g2, _⟩ := s.dk rx hn
        cases ry
        obtain ⟨v, e1, e2⟩ := dk_get g1 g2 hg
        exact ⟨a, gs, .inr z, v, rfl, rfl, ea, e1, h.here s e2⟩
  left; left
  cases d <;> cases e <;> first | (exfalso; exact h) | (exfalso; exact hd ⟨_, _, rfl, rfl⟩) | (exfalso; exact hk ⟨_, _, rfl, rfl⟩) | skip
  · cases rx; cases ry
    simp only [ix2] at h
    split at h
    case isFalse => exact h.elim
    case isTrue hz =>
      split at h
      case h_1 c hc => exact .inr (.inr ⟨_, _, c, rfl, rfl, by rw [← linesz_eq]; exact hz, hc, h.here s (.str _)⟩)
      case h_2 => exact h.elim
  · cases ry
    cases rx with
    | tup h1 r =>
      simp only [ix2] at h
      split at h
      case h_1 d hd =>
        obtain ⟨v, e1, e2⟩ := atI_rep r hd
        exact .inr (.inl ⟨_, _, _, v, rfl, rfl, h1, e1, h.here s e2⟩)
      case h_2 => exact h.elim
  · cases ry
    simp only [ix2] at h
    split at h
    · split at h
      case h_2 => exact h.elim
      case h_1 d hd =>
        obtain ⟨a, vs, rfl, h1, r, _⟩ := s.list rx (by assumption)
        obtain ⟨v, e1, e2⟩ := atI_rep r hd
        exact .inl ⟨_, _, _, v, rfl, rfl, .of h1, e1, h.here s e2⟩
    · split at h
      case h_2 => exact h.elim
      case h_1 d hd =>
        obtain ⟨a, vs, rfl, h1, r, _⟩ := s.roL rx (by assumption)
        obtain ⟨v, e1, e2⟩ := atI_rep r hd
        exact .inl ⟨_, _, _, v, rfl, rfl, h1.sq, e1, h.here s e2⟩
    · exact h.elim
theorem cut_rep {ds : List D} {vs : List V} (r : RepVs K H μ ds vs) (lo hi : Option Int) : RepVs K H μ (cutD ds lo hi) (L2.cutV vs lo hi) := by
  unfold cutD L2.cutV
  rw [r.length]
  exact (r.drop _).take _
theorem slc_all : SlR X (slV X.K γ W slc2) := by
  refine slR_imp (SlR.or C8.sl_txt (sl_list.or sl_tupA)) fun x lo hi H Q ⟨μ, σ, ρ, S, d, s, rx, h⟩ => ?_
  cases d <;> first | (exfalso; exact h) | skip
  · cases rx
    simp only [slc2] at h
    split at h
    · rename_i hz
      exact .inl ⟨_, rfl, by rw [← linesz_eq]; exact hz, h.here s (.str _)⟩
    · exact h.elim
  · cases rx with
    | tup h1 r =>
      simp only [slc2] at h
      refine .inr (.inr ⟨_, _, rfl, h1, fun hw => ?_, fun _ => h.newT s (cut_rep r lo hi)⟩)
      have q : PostR X.K γ W (relV X.K) μ H σ ρ (.ok (.tup (cutD _ lo hi)) S) Q := h
      refine q.here s (.tup h1 ?_)
      rename_i a vs ds
      have e1 : L2.cutV vs lo hi = vs := by
        unfold L2.cutV
        rw [hw.1, hw.2]
        simp
      have t := cut_rep r lo hi
      rw [e1] at t
      exact t
  · simp only [slc2] at h
    split at h
    · obtain ⟨a, vs, rfl, h1, r, _⟩ := s.list rx (by assumption)
      exact .inr (.inl ⟨a, vs, rfl, .of h1, h.newL s (cut_rep r lo hi)⟩)
    · obtain ⟨a, vs, rfl, h1, r, _⟩ := s.roL rx (by assumption)
      exact .inr (.inl ⟨a, vs, rfl, h1.sq, h.newL s (cut_rep r lo hi)⟩)
    · exact h.elim
end
end Ng

set_option Elab.async false
set_option linter.all false
set_option maxRecDepth 100000
set_option maxHeartbeats 4000000
/-! What the text must be for an expression of the engine; that the engine reads it. -/
namespace Ng
open PySem PySem.Spec PyProof.Rows L2

/-- a constant of the top: a value, a dict with text keys -/
inductive GC where
  | v (d : D) | d (kvs : List (Str × D)) | f (tbl : List (Str × Str × Nat)) | i (kvs : List (Int × D))
  deriving DecidableEq
/-- a def's key: a top def, a method, a constructor -/
inductive FK where
  | fn (x : Str) | me (c m : Str) | mk (c : Str)
  deriving DecidableEq
/-- what is known of the place: the names by slot, the scope, which cells may be stored, whether nothing is being handled; the defs by number, the constants, the built-ins that the module does not hide -/
structure Gam where
  N : List Str
  sc : Scope
  fn : Str → Bool
  calm : Bool
  fns : List FK
  atr : List (Str × Str)
  glb : List (Str × GC)
  blt : List Str
  exs : List Str
  isa : List (Str × List Bool)
  hot : Bool
def glX (Γ : Gam) (x : Str) : Bool := decide (Γ.sc.names.lookup x = some .globalImplicit)
def blX (Γ : Gam) (x : Str) : Bool := glX Γ x && Γ.blt.contains x
def visX (Γ : Gam) (x : Str) : Bool := match Γ.sc.names.lookup x with | some .local => true | some .cell => true | some .free => true | _ => false
def nodbg (x : Str) : Bool := !(x == ("__debug__" : Str)) && !(x == ("__classdict__" : Str)) && !(x == ("__name__" : Str))
def biName : Bi → Str
  | .len => "len" | .abs => "abs" | .min2 => "min" | .max2 => "max" | .min3 => "min" | .max3 => "max" | .int => "int" | .str => "str" | .tuple => "tuple" | .list => "list" | .any => "any" | .all => "all" | .sum => "sum"
  | .sorted => "sorted" | .minL => "min" | .maxL => "max" | .dict0 => "dict" | .dict => "dict"
/-- how many arguments; 0: not served -/
def biArgs : Bi → Nat
  | .len => 1 | .abs => 1 | .min2 => 2 | .max2 => 2 | .min3 => 3 | .max3 => 3 | .int => 1 | .str => 1 | .tuple => 1 | .list => 1 | .any => 1 | .all => 1 | .sum => 1 | .sorted => 1
  | _ => 0
def tyName : Ty → String
  | .int => "int" | .bool => "bool" | .str => "str" | .tuple => "tuple" | .list => "list" | .dict => "dict"
/-- what a piece of text is: an expression, arguments, a part of a slice, an iterable -/
structure Ck where
  e : Expr → Bool
  a : List Expr → Bool
  o : Option Expr → Bool
  i : Expr → Expr → Bool
def Ck.ofE (f : Expr → Bool) : Ck := { e := f, a := fun _ => false, o := fun x => match x with | some x => f x | none => false, i := fun x _ => f x }
def Ck.no : Ck := Ck.ofE fun _ => false
def ckRest (f : Expr → Bool) (op : BoolOp) (pos : Pos) : List Expr → Bool
  | [] => false
  | [y] => f y
  | y :: z :: r => f (.BoolOp op (y :: z :: r) pos)
def tyExpr (Γ : Gam) (t : Ty) : Expr → Bool
  | .Name x _ => decide (x = Str.ofString (tyName t)) && blX Γ x
  | _ => false
def tyExprs (Γ : Gam) : List Ty → List Expr → Bool
  | [], [] => true
  | t :: ts, e :: es => tyExpr Γ t e && tyExprs Γ ts es
  | _, _ => false
/-- a target of names -/
def ckName (Γ : Gam) (i : Nat) (x : Str) : Bool := decide (Γ.N[i]? = some x) && (match Γ.sc.names.lookup x with | some .local => true | some .cell => Γ.fn x | _ => false)
def ckGs (Γ : Gam) : E → List Expr → Bool
  | .nil, [] => true
  | .cons (.var i) ts, .Name x _ :: es => ckName Γ i x && ckGs Γ ts es
  | _, _ => false
def ckG (Γ : Gam) : E → Expr → Bool
  | .var i, .Name x _ => ckName Γ i x
  | .tup ts, .Tuple es _ _ => Γ.calm && ckGs Γ ts es
  | _, _ => false
def tgSlots : E → List Nat
  | .var i => [i]
  | .tup ts => tgSlots ts
  | .cons (.var i) ts => i :: tgSlots ts
  | _ => []
def ownOf (N : List Str) (own : List Nat) : List (Str × Nat) := own.filterMap fun i => (N[i]?).map fun x => (x, i)
def Gam.blk (Γ : Gam) (scope : Scope) : Gam := { Γ with sc := relS scope Γ.sc, fn := fun x => scope.names.lookup x == some .cell, hot := false }
def Gam.suite (Γ : Gam) : Gam := { Γ with calm := false, hot := true }
def isSet : Expr → Bool
  | .Set .. => true
  | _ => false
def isTupE : Expr → Bool
  | .Tuple .. => true
  | _ => false
def plainObj : Expr → Bool
  | .Call .. => false
  | _ => true
/-- the written keys of a display -/
def ckKeys : List Str → List (Option Expr) → Bool
  | [], [] => true
  | k :: ks, some (.Constant (.str z) _ _) :: r => decide (k = z) && ckKeys ks r
  | _, _ => false
def chk : E → Gam → Ck
  | .var i, Γ => Ck.ofE fun x => match x with
    | .Name x _ => decide (Γ.N[i]? = some x) && visX Γ x && nodbg x
    | _ => false
  | .non, _ => Ck.ofE fun x => match x with | .Constant .none _ _ => true | _ => false
  | .bl b, _ => Ck.ofE fun x => match x with | .Constant (.bool c) _ _ => b == c | _ => false
  | .int i, _ => Ck.ofE fun x => match x with | .Constant (.int j) _ _ => i == j | _ => false
  | .str s, _ => Ck.ofE fun x => match x with | .Constant (.str t) _ _ => decide (s = t) | _ => false
  | .glb y d, Γ => Ck.ofE fun x => match x with
    | .Name x _ => decide (x = y) && glX Γ x && nodbg x && decide (Γ.glb.lookup x = some (.v d))
    | _ => false
  | .bin o a b, Γ => Ck.ofE fun x => match x with | .BinOp l p r _ => decide (p = opOf o) && (chk a Γ).e l && (chk b Γ).e r | _ => false
  | .neg a, Γ => Ck.ofE fun x => match x with | .UnaryOp .USub y _ => (chk a Γ).e y | _ => false
  | .cmp o a b, Γ => Ck.ofE fun x => match x with | .Compare l [p] [r] _ => decide (p = cmpOf o) && (chk a Γ).e l && (chk b Γ).e r && !(behindInMarks p r) | _ => false
  | .chain o1 o2 a b c, Γ => Ck.ofE fun x => match x with | .Compare l [p, q] [r, z] _ => decide (p = cmpOf o1) && decide (q = cmpOf o2) && (chk a Γ).e l && (chk b Γ).e r && (chk c Γ).e z && !(lastMarks [p, q] [r, z]) | _ => false
  | .not a, Γ => Ck.ofE fun x => match x with | .UnaryOp .Not y _ => (chk a Γ).e y | _ => false
  | .and a b, Γ => Ck.ofE fun x => match x with | .BoolOp .And (y :: r) pos => (chk a Γ).e y && ckRest (chk b Γ).e .And pos r | _ => false
  | .or a b, Γ => Ck.ofE fun x => match x with | .BoolOp .Or (y :: r) pos => (chk a Γ).e y && ckRest (chk b Γ).e .Or pos r | _ => false
  | .ite c a b, Γ => Ck.ofE fun x => match x with | .IfExp t y z _ => (chk c Γ).e t && (chk a Γ).e y && (chk b Γ).e z | _ => false
  | .tup as, Γ => Ck.ofE fun x => match x with | .Tuple es _ _ => (chk as Γ).a es | _ => false
  | .lst as, Γ => Ck.ofE fun x => match x with | .List es _ => (chk as Γ).a es | _ => false
  | .nil, _ => { e := fun _ => false, a := fun xs => match xs with | [] => true | _ => false, o := fun x => match x with | none => true | _ => false, i := fun _ _ => false }
  | .cons a as, Γ => { e := fun _ => false, a := fun xs => match xs with | [] => false | x :: r => (chk a Γ).e x && (chk as Γ).a r, o := fun _ => false, i := fun _ _ => false }
  | .ix a b, Γ => Ck.ofE fun x => match x with | .Subscript o i _ => (chk a Γ).e o && (chk b Γ).e i | _ => false
  | .slc a lo hi, Γ => Ck.ofE fun x => match x with | .Subscript o (.Slice l u none _) _ => (chk a Γ).e o && (chk lo Γ).o l && (chk hi Γ).o u | _ => false
  | .call f as, Γ => Ck.ofE fun x => match x with
    | .Call (.Name x _) es [] _ => Γ.calm && (decide (Γ.fns[f]? = some (.fn x)) || decide (Γ.fns[f]? = some (.mk x))) && glX Γ x && nodbg x && (chk as Γ).a es
    | _ => false
  | .bi f as, Γ => Ck.ofE fun x => match x with
    | .Call (.Name x _) es [] _ => Γ.calm && decide (x = biName f) && blX Γ x && decide (es.length = biArgs f) && (chk as Γ).a es
    | _ => false
  | .me m o as, Γ => Ck.ofE fun x => match x with
    | .Call (.Attribute v x apos) (e :: es) [] pos => (match m with | .append => decide (x = ("append" : Str)) | .index => decide (x = ("index" : Str)) | .insert => decide (x = ("insert" : Str)) | .get1 => decide (x = ("get" : Str)) | .get2 => decide (x = ("get" : Str)) | .pop => decide (x = ("pop" : Str)) | _ => false) && (apos.endLine == pos.line) && plainObj v && (chk o Γ).e v && (chk as Γ).a (e :: es) && decide (es.length < 20)
    | _ => false
  | .fld c f o, Γ => Ck.ofE fun x => match x with
    | .Attribute v x _ => decide (x = f) && Γ.atr.contains (c, f) && plainObj v && (chk o Γ).e v
    | _ => false
  | .mth f c m o as, Γ => Ck.ofE fun x => match x with
    | .Call (.Attribute v x apos) es [] pos => Γ.calm && decide (x = m) && decide (Γ.fns[f]? = some (.me c m)) && (apos.endLine == pos.line) && decide (es.length < 30) && plainObj v && (chk o Γ).e v && (chk as Γ).a es
    | _ => false
  | .lc2 own own2 tg src tg2 src2 elt, Γ => Ck.ofE fun x => match x with
    | .ListComp el [⟨t, it, [], 0⟩, ⟨t2, it2, [], 0⟩] scope _ =>
      Γ.calm && (chk src Γ).i it t && !(isSet it) && blkC Γ.N Γ.sc scope (ownOf Γ.N own) && decide ((ownOf Γ.N own).map (·.2) = own) && ckG (Γ.blk scope) tg t && (tgSlots tg).all (fun i => own.contains i) &&
        (chk src2 (Γ.blk scope)).i it2 t2 && !(isSet it2) && ckG (Γ.blk scope) tg2 t2 && (tgSlots tg2).all (fun i => own2.contains i) && own2.all (fun i => own.contains i) && (chk elt (Γ.blk scope)).e el
    | _ => false
  | .isi a ts multi, Γ => Ck.ofE fun x => match x with
    | .Call (.Name x _) [y, z] [] _ => decide (x = ("isinstance" : Str)) && (!ts.isEmpty && decide (ts.length ≤ 10)) && blX Γ x && (chk a Γ).e y && (bif multi then (match z with | .Tuple es _ _ => tyExprs Γ ts es | _ => false) else tyExprs Γ ts [z])
    | _ => false
  | .isx a y tbl, Γ => Ck.ofE fun x => match x with
    | .Call (.Name x _) [z, .Name y' _] [] _ => Γ.hot && decide (x = ("isinstance" : Str)) && blX Γ x && decide (y' = y) && glX Γ y && nodbg y && decide (Γ.isa.lookup y = some tbl) && (chk a Γ).e z
    | _ => false
  | .rng as, Γ => { Ck.no with i := fun x _ => match x with
    | .Call (.Name x _) es [] _ => decide (x = ("range" : Str)) && blX Γ x && (es.length == 1 || es.length == 2 || es.length == 3) && (chk as Γ).a es
    | _ => false }
  | .enm as, Γ => { Ck.no with i := fun x tg => match x with
    | .Call (.Name x _) es [] _ => decide (x = ("enumerate" : Str)) && blX Γ x && (es.length == 1) && isTupE tg && (chk as Γ).a es
    | _ => false }
  | .zp as, Γ => { Ck.no with i := fun x tg => match x with
    | .Call (.Name x _) es [] _ => decide (x = ("zip" : Str)) && blX Γ x && (es.length == 2) && isTupE tg && (chk as Γ).a es
    | _ => false }
  | .fjs as, Γ => Ck.ofE fun x => match x with
    | .JoinedStr (v1 :: v2 :: rest) _ => (chk as Γ).a (v1 :: v2 :: rest)
    | _ => false
  | .fmt a, Γ => Ck.ofE fun x => match x with
    | .FormattedValue e c none _ => decide (c = -1) && (chk a Γ).e e
    | _ => false
  | .sm m o a, Γ => Ck.ofE fun x => match x with
    | .Call (.Attribute v x apos) [e] [] pos => (match m with | .split => decide (x = ("split" : Str)) | .join => decide (x = ("join" : Str)) | .startswith => decide (x = ("startswith" : Str)) | .upper => false) && (apos.endLine == pos.line) && plainObj v && (chk o Γ).e v && (chk a Γ).e e
    | _ => false
  | .sm0 m o, Γ => Ck.ofE fun x => match x with
    | .Call (.Attribute v x apos) [] [] pos => (match m with | .upper => decide (x = ("upper" : Str)) | _ => false) && (apos.endLine == pos.line) && plainObj v && (chk o Γ).e v
    | _ => false
  | .dd0, _ => Ck.ofE fun x => match x with | .Dict [] [] _ => true | _ => false
  | .dd1 k v, Γ => Ck.ofE fun x => match x with | .Dict [some kx] [vx] _ => (chk k Γ).e kx && (chk v Γ).e vx | _ => false
  | .dd2 k v k2 v2, Γ => Ck.ofE fun x => match x with | .Dict [some kx, some kx2] [vx, vx2] _ => (chk k Γ).e kx && (chk v Γ).e vx && (chk k2 Γ).e kx2 && (chk v2 Γ).e vx2 | _ => false
  | .kdd ks vs, Γ => Ck.ofE fun x => match x with
    | .Dict keys values _ => ckKeys ks keys && (chk vs Γ).a values && decide (ks.length = values.length) && decide (0 < ks.length) && decide (ks.length ≤ 15)
    | _ => false
  | .pop0 o, Γ => Ck.ofE fun x => match x with
    | .Call (.Attribute v x apos) [] [] pos => decide (x = ("pop" : Str)) && (apos.endLine == pos.line) && plainObj v && (chk o Γ).e v
    | _ => false
  | .lk _ e, Γ => Ck.ofE fun x => match x with
    | .ListComp el gs sc p => (chk e Γ).e (.ListComp el gs sc p)
    | _ => false
  | .gix y kvs a, Γ => Ck.ofE fun x => match x with
    | .Subscript (.Name x _) i _ => decide (x = y) && glX Γ x && nodbg x && decide (Γ.glb.lookup x = some (.i kvs)) && (chk a Γ).e i
    | _ => false
  | .gdx y kvs a, Γ => Ck.ofE fun x => match x with
    | .Subscript (.Name x _) i _ => decide (x = y) && glX Γ x && nodbg x && decide (Γ.glb.lookup x = some (.d kvs)) && (chk a Γ).e i
    | _ => false
  | .gdin y kvs neg a, Γ => Ck.ofE fun x => match x with
    | .Compare l [p] [.Name x q] _ => decide (p = if neg then .NotIn else .In) && decide (x = y) && glX Γ x && nodbg x && decide (Γ.glb.lookup x = some (.d kvs)) && (chk a Γ).e l && !(behindInMarks p (.Name x q))
    | _ => false
  | .bln a, Γ => Ck.ofE fun x => match x with
    | .Call (.Attribute v x apos) [] [] pos => decide (x = ("bit_length" : Str)) && (apos.endLine == pos.line) && plainObj v && (chk a Γ).e v
    | _ => false
  | .lrv a, Γ => Ck.ofE fun x => match x with
    | .Call (.Name x _) [.Call (.Name y _) [e] [] _] [] _ => Γ.calm && decide (x = ("list" : Str)) && blX Γ x && decide (y = ("reversed" : Str)) && blX Γ y && (chk a Γ).e e
    | _ => false
  | .itm _, _ => Ck.no
  | .lc own tg src cond elt, Γ => Ck.ofE fun x => match x with
    | .ListComp el [⟨t, it, ifs, 0⟩] scope _ =>
      Γ.calm && (chk src Γ).i it t && !(isSet it) && blkC Γ.N Γ.sc scope (ownOf Γ.N own) && decide ((ownOf Γ.N own).map (·.2) = own) && ckG (Γ.blk scope) tg t && (tgSlots tg).all (fun i => own.contains i) &&
        (match ifs with | [] => (match cond with | .bl true => true | _ => false) | [c] => (chk cond (Γ.blk scope)).e c | _ => false) && (chk elt (Γ.blk scope)).e el
    | _ => false
end Ng

set_option Elab.async false
set_option linter.all false
set_option maxRecDepth 100000
set_option maxHeartbeats 4000000
/-! The engine's expressions are read as they are evaluated. -/
namespace Ng
open PySem PySem.Spec PyProof.Rows L2

/-- a def's promise, by the engine -/
def spF (K : PySem.W.Frag) (γ : Nat → Value) (P : Nat → List D → Store → R D) (np f : Nat) : Sp := fun vs H Q E => vs.length = np ∧ ∃ μ S ds, RepS K H μ S ∧ RepVs K H μ ds vs ∧
  match P f ds S with
  | .ok d S' => ∀ μ' v H', Le K μ H μ' H' → RepS K H' μ' S' → RepV K H' μ' d v → Q v H'
  | .exc c fs S' => ∀ μ' H' d, Le K μ H μ' H' → RepS K H' μ' S' → XD K H' μ' fs d → E (γ c) d H'
  | .bad => False
/-- the walk of an iterable is what the engine tells -/
def Wk (K : PySem.W.Frag) (μ₀ : Mu) (H₀ : Hp) (w : Ng.It) (J : L2.It) : Prop := ∀ μ σ H ρ S (i : Nat), Le K μ₀ H₀ μ H → Sim K μ σ H ρ S → ckS w.lk S = true →
  (w.ds[i]? = none → J.stop i H) ∧ (∀ d, w.ds[i]? = some d → J.go i H ∧ ∀ x H', J.yld i H x H' → ∃ μ', Le K μ H μ' H' ∧ Sim K μ' σ H' ρ S ∧ RepV K H' μ' d x)
def tI (K : PySem.W.Frag) (γ : Nat → Value) (W : WX) (f : Env → Store → R Ng.It) : TI := tR K γ W (Wk K) f
/-- what the classes of the exceptions are, asked about the class that y names -/
def Isa (K : PySem.W.Frag) (mg : Str → Option Value) (γ : Nat → Value) (y : Str) (tbl : List Bool) : Prop :=
  ∃ cv v, (∀ u, RelV v u → u = cv) ∧ RelV v cv ∧ (mg y = some cv ∨ (mg y = none ∧ bootBuiltins y = some cv ∧ y ≠ "__name__")) ∧ ∀ c b, tbl[c]? = some b → PySem.W.kitOne K (γ c) cv = some b ∧ PySem.W.exmOne K (γ c) cv = some b
/-- a def that keeps the engine's promise -/
structure FnP (prog : Program) (w : World) (K : PySem.W.Frag) (mg : Str → Option Value) (base : Heap) (γ : Nat → Value) (P : Nat → List D → Store → R D) (f : Nat) (k : Nat) (addr : Addr) (fd : FuncData) (ps : List Str) : Prop where
  ok : FnOk prog w K mg base (L2.CX prog w) k addr fd ps (spF K γ P ps.length f)
  len : ∀ ds S, P f ds S ≠ .bad → ds.length = ps.length
  bnd : Binds K fd ps []
/-- what is known of a def's key -/
def FnG (X : Cx) (γ : Nat → Value) (P : Nat → List D → Store → R D) (f : Nat) : FK → Prop
  | .fn x => ∃ k addr fd ps, FnP X.prog X.w X.K X.mg X.base γ P f k addr fd ps ∧ Room k X.A ∧ X.mg x = some (.ref addr) ∧ PySem.W.keepIn X.K (.ref addr) = true
  | .me c m => ∃ k addr fd ps C, FnP X.prog X.w X.K X.mg X.base γ P f k addr fd ps ∧ Room k X.A ∧ PySem.W.nsIn X.K mainGlobals c = some (some (.ref C)) ∧ Cls X.K C ∧ Meth X.K C m addr
  | .mk c => ∃ C addr, PySem.W.nsIn X.K mainGlobals c = some (some (.ref C)) ∧ X.mg c = some (.ref C) ∧ Mk X.K C addr ∧
    ((∀ ds S, P f ds S = .bad) ∨ ∃ k fd ps g P', (∀ ds S, P f ds S = mkR c (P' g) ds S) ∧ FnP X.prog X.w X.K X.mg X.base γ P' g k addr fd ps ∧ Room (k + 1) X.A)
/-- what a dict of the top holds at a text -/
def KvAt (K : PySem.W.Frag) (a : Addr) (z : Str) : Option D → Prop
  | some d => ∃ u v, PySem.W.nsIn K a z = some (some u) ∧ RelV v u ∧ ∀ H μ, RepV K H μ d v
  | none => PySem.W.nsIn K a z = some none
def GOk (K : PySem.W.Frag) (w : World) (mg : Str → Option Value) (x : Str) : GC → Prop
  | .v d => ∃ u v, mg x = some u ∧ RelV v u ∧ ∀ H μ, RepV K H μ d v
  | .d kvs => ∃ a es n, mg x = some (.ref a) ∧ KDict K w a es n ∧ ∀ z, KvAt K a z (kvs.lookup z)
  | .i kvs => ∃ a es n, mg x = some (.ref a) ∧ K.lookup a = some ⟨.type "dict", none, .dict es n, #[]⟩ ∧ (∀ e ∈ es, ∃ i t, e.key = .int i t ∧ e.hash = hashInt i) ∧ ∀ i d, kvs.lookup i = some d → ∃ u v, findBy Value.isInt es i = some u ∧ RelV v u ∧ ∀ H μ, RepV K H μ d v
  | .f tbl => ∃ a es n, mg x = some (.ref a) ∧ KDict K w a es n ∧ ∀ p ∈ tbl, ∃ addr, mg p.2.1 = some (.ref addr) ∧ PySem.W.nsIn K a p.1 = some (some (.ref addr))
structure Good (X : Cx) (Γ : Gam) (γ : Nat → Value) (W : WX) (P : Nat → List D → Store → R D) : Prop where
  N : X.N = Γ.N
  nd : X.N.Nodup
  sc : X.env.scope = Γ.sc
  fn : ∀ x, Γ.fn x = true → X.fn x = true
  calm : Γ.calm = true → X.calm = true
  un : X.A.units + 66 < cLine
  glb : ∀ x d, Γ.glb.lookup x = some d → GOk X.K X.w X.mg x d
  blt : ∀ x, Γ.blt.contains x = true → X.mg x = none
  tk : Takes X W
  fns : Γ.calm = true → ∀ f q, Γ.fns[f]? = some q → FnG X γ P f q
  atr : ∀ c f, Γ.atr.contains (c, f) = true → ∃ C, PySem.W.nsIn X.K mainGlobals c = some (some (.ref C)) ∧ Cls X.K C ∧ NoAttr X.K C f
  isa : ∀ y tbl, Γ.isa.lookup y = some tbl → Isa X.K X.mg γ y tbl
  hot : Γ.hot = true → ∀ c a S, P hotq [.exc c a] S ≠ .bad → P hotq [.exc c a] S = .ok .non S ∧ ∃ C, γ c = .ref C ∧ CallR X (.builtin "isinstance") (rIsE X.K C a)
def tJ (K : PySem.W.Frag) (γ : Nat → Value) (W : WX) (f : Env → Store → R Str) : L2.St → Hp → (Str → Hp → Prop) → Prop := tR K γ W relEq f
/-- expressions one by one -/
inductive PKs (X : Cx) (γ : Nat → Value) (W : WX) : List Expr → List (Env → Store → R D) → Prop
  | nil : PKs X γ W [] []
  | cons {x : Expr} {xs : List Expr} {t : Env → Store → R D} {ts : List (Env → Store → R D)} (h : PE X x (tE X.K γ W t)) (r : PKs X γ W xs ts) : PKs X γ W (x :: xs) (t :: ts)
def tKs (K : PySem.W.Frag) (γ : Nat → Value) (W : WX) : List (Env → Store → R D) → L2.St → Hp → (List V → Hp → Prop) → Prop
  | [], _, H, T => T [] H
  | t :: ts, σ, H, T => tE K γ W t σ H fun x H1 => tKs K γ W ts σ H1 fun xs H2 => T (x :: xs) H2
theorem tE_imp {K : PySem.W.Frag} {γ : Nat → Value} {W : WX} {f : Env → Store → R D} {σ : L2.St} {H : Hp} {Q Q' : VK} (h : tE K γ W f σ H Q) (i : ∀ v H, Q v H → Q' v H) : tE K γ W f σ H Q' := by
  obtain ⟨μ, ρ, S, s, q⟩ := h
  exact ⟨μ, ρ, S, s, q.imp i⟩
structure Snd (X : Cx) (γ : Nat → Value) (W : WX) (d : Den) (ck : Ck) : Prop where
  e : ∀ x, ck.e x = true → PE X x (tE X.K γ W d.v)
  t : ∀ x, ck.e x = true → PT X x (tT X.K γ W d.t)
  w : ∀ op vs pos, ck.e (.BoolOp op vs pos) = true → PW X (.BoolOp op vs pos) (tT X.K γ W d.t)
  a : ∀ xs, ck.a xs = true → PA X xs (tA X.K γ W d.a)
  o : ∀ x, ck.o x = true → PO X x (tO X.K γ W d.o)
  i : ∀ x tg, ck.i x tg = true → PI X tg x (tI X.K γ W d.i)
  j : ∀ xs, ck.a xs = true → ∃ ts, PJ X xs ts ∧ ∀ acc σ H Q, tJ X.K γ W (d.j acc) σ H Q → tJs ts acc σ H Q
  k : ∀ xs, ck.a xs = true → ∃ ts, PKs X γ W xs ts ∧ ∀ σ H T, tA X.K γ W d.a σ H T → tKs X.K γ W ts σ H T
section
variable {X : Cx} {γ : Nat → Value} {W : WX} {Γ : Gam} {P : Nat → List D → Store → R D}
theorem pi_imp {tg x : Expr} {t t' : TI} (h : PI X tg x t) (i : ∀ σ H R, t' σ H R → t σ H R) : PI X tg x t' := ⟨fun pins s σ H R I q => h.run pins s σ H R I (i σ H R q)⟩
theorem pi_or {tg x : Expr} {t t' : TI} (h : PI X tg x t) (h' : PI X tg x t') : PI X tg x (fun σ H R => t σ H R ∨ t' σ H R) := ⟨fun pins s σ H R I q => q.elim (h.run pins s σ H R I) (h'.run pins s σ H R I)⟩
theorem pe_or' {x : Expr} {t t' : TE} (h : PE X x t) (h' : PE X x t') : PE X x (fun σ H Q => t σ H Q ∨ t' σ H Q) := ⟨fun pins s σ H Q I q => q.elim (h.run pins s σ H Q I) (h'.run pins s σ H Q I)⟩
/-! ### iterables of values -/
theorem wk_list {K : PySem.W.Frag} {μ : Mu} {H : Hp} {n : Nat} {ds : List D} {a : Addr} (hm : μ[n]? = some a) {c : Cell} (hc : c = .lst ds ∨ c = .ro ds) : Wk K μ H ⟨ds, some (n, c)⟩ (Itl K a) := by
  intro μ1 σ H1 ρ S i le s hck
  have hS : S[n]? = some c := by simpa [ckS] using hck
  obtain ⟨vs, hq, r⟩ : ∃ vs, SqL K H1 a vs ∧ RepVs K H1 μ1 ds vs := by
    have rc := s.s.cell n _ _ hS (le.at hm)
    rcases hc with rfl | rfl
    · obtain ⟨vs, h1, r⟩ := rc; exact ⟨vs, .of h1, r⟩
    · obtain ⟨vs, h1, r⟩ := rc; exact ⟨vs, h1.sq, r⟩
  refine ⟨fun hn => ⟨vs, hq, ?_⟩, fun d hd => ?_⟩
  · rw [r.length]; exact List.getElem?_eq_none_iff.mp hn
  · obtain ⟨v, h1, h2⟩ := r.get hd
    refine ⟨⟨vs, v, hq, h1⟩, fun x H' ⟨e, hx⟩ => ?_⟩
    subst e
    have := hx vs hq
    rw [h1] at this
    cases this
    exact ⟨μ1, .refl, s, h2⟩
theorem wk_tup {K : PySem.W.Frag} {μ : Mu} {H : Hp} {ds : List D} {vs : List V} {a : Addr} (hq : SqT K H a vs) (r : RepVs K H μ ds vs) : Wk K μ H ⟨ds, none⟩ (Itt K a) := by
  intro μ1 σ H1 ρ S i le s _
  have hq1 := le.tup _ _ hq
  have r1 := r.mono le
  refine ⟨fun hn => ⟨vs, hq1, ?_⟩, fun d hd => ?_⟩
  · rw [r.length]; exact List.getElem?_eq_none_iff.mp hn
  · obtain ⟨v, h1, h2⟩ := r1.get hd
    refine ⟨⟨vs, v, hq1, h1⟩, fun x H' ⟨e, hx⟩ => ?_⟩
    subst e
    have := hx vs hq1
    rw [h1] at this
    cases this
    exact ⟨μ1, .refl, s, h2⟩
theorem wk_rng {K : PySem.W.Frag} {μ : Mu} {H : Hp} {lo : Int} {n : Nat} : Wk K μ H ⟨rngD lo n, none⟩ (Itr lo n) := by
  intro μ1 σ H1 ρ S i le s _
  refine ⟨fun hn => ?_, fun d hd => ?_⟩
  · have := List.getElem?_eq_none_iff.mp hn
    have h2 : n ≤ i := by simpa [rngD] using this
    exact h2
  · unfold rngD at hd
    rw [List.getElem?_map] at hd
    cases e : (List.range n)[i]? with
    | none => rw [e] at hd; cases hd
    | some j =>
      rw [e] at hd
      cases hd
      have hi := (List.getElem?_eq_some_iff.mp e).1
      rw [List.length_range] at hi
      rw [List.getElem?_range hi] at e
      cases e
      refine ⟨hi, fun x H' ⟨e1, e2⟩ => ?_⟩
      subst e1; subst e2
      exact ⟨μ1, .refl, s, .int _⟩
theorem wk_rngN {K : PySem.W.Frag} {μ : Mu} {H : Hp} {lo : Int} {n : Nat} : Wk K μ H ⟨rngN lo n, none⟩ (Itc lo (-1) n) := by
  intro μ1 σ H1 ρ S i le s _
  refine ⟨fun hn => ?_, fun d hd => ?_⟩
  · have := List.getElem?_eq_none_iff.mp hn
    have h2 : n ≤ i := by simpa [rngN] using this
    exact h2
  · unfold rngN at hd
    rw [List.getElem?_map] at hd
    cases e : (List.range n)[i]? with
    | none => rw [e] at hd; cases hd
    | some j =>
      rw [e] at hd
      cases hd
      have hi := (List.getElem?_eq_some_iff.mp e).1
      rw [List.length_range] at hi
      rw [List.getElem?_range hi] at e
      cases e
      refine ⟨hi, fun x H' ⟨e1, e2⟩ => ?_⟩
      subst e1; subst e2
      exact ⟨μ1, .refl, s, .int _⟩
theorem ints_reps {K : PySem.W.Frag} {H : Hp} {μ : Mu} : ∀ k : List Int, RepVs K H μ (k.map D.int) (k.map V.int)
  | [] => .nil
  | i :: k => .cons (.int i) (ints_reps k)
theorem paired_at {α β : Type} {r : α → β → Prop} : ∀ {xs : List α} {ys : List β} {i : Nat} {x : α}, Paired r xs ys → xs[i]? = some x → ∃ y, ys[i]? = some y ∧ r x y
  | [], _, i, x, .nil, h => by simp at h
  | a :: xs, b :: ys, 0, x, .cons h _, e => by simp at e; subst e; exact ⟨b, rfl, h⟩
  | a :: xs, b :: ys, i + 1, x, .cons _ t, e => by
    obtain ⟨y, h1, h2⟩ := paired_at (i := i) t (by simpa using e)
    exact ⟨y, by simpa using h1, h2⟩
theorem wk_keys {K : PySem.W.Frag} {μ : Mu} {H : Hp} {kvs : List (List Int × D)} {xs : List (List Int × Addr × Value)} {a : Addr} {o : Obj} (hH : H a = some (.frz o (DX a xs))) (r : KVX K H μ kvs xs) : Wk K μ H ⟨kvs.map fun p => .tup (p.1.map D.int), none⟩ (ItX a o xs) := by
  intro μ1 σ H1 ρ S i le s _
  have hH1 := le.fz a o xs hH
  have r1 := r.mono le
  refine ⟨fun hn => ⟨hH1, ?_⟩, fun d hd => ?_⟩
  · rw [← r.length]
    have := List.getElem?_eq_none_iff.mp hn
    simpa using this
  · rw [List.getElem?_map] at hd
    cases e : kvs[i]? with
    | none => rw [e] at hd; cases hd
    | some p =>
      rw [e] at hd
      cases hd
      obtain ⟨q, hq, h1, h2, _⟩ := paired_at r1 e
      have hi : i < xs.length := (List.getElem?_eq_some_iff.mp hq).1
      refine ⟨⟨hH1, hi⟩, fun x H' ⟨e1, k, b, v, e2, e3⟩ => ?_⟩
      subst e1 e3
      rw [hq] at e2
      cases e2
      exact ⟨μ1, .refl, s, .tup h2 (by rw [h1]; exact ints_reps _)⟩
theorem pi_val {tg x : Expr} {v : Env → Store → R D} (h : PE X x (tE X.K γ W v)) : PI X tg x (tI X.K γ W fun ρ S => (v ρ S).bind itD) := by
  refine pi_imp (pi_or (pi_or (pi_list h) (pi_tup h)) (pi_keysX h)) fun σ H R ⟨μ, ρ, S, s, q⟩ => ?_
  have q1 := PostR.bind (rel := relV X.K) q
  cases e : v ρ S with
  | bad => rw [e] at q1; exact q1.elim
  | exc c fs S' =>
    rw [e] at q1
    exact .inl (.inl ⟨μ, ρ, S, s, by rw [e]; exact q1⟩)
  | ok d S1 =>
    have key : ∀ {T : VK}, (∀ μ1 H1 v, Le X.K μ H μ1 H1 → Sim X.K μ1 σ H1 ρ S1 → RepV X.K H1 μ1 d v → T v H1) → tE X.K γ W v σ H T := fun t => ⟨μ, ρ, S, s, by rw [e]; exact t⟩
    change PostR X.K γ W (Wk X.K) μ H σ ρ ((v ρ S).bind itD) R at q
    rw [e] at q
    change PostR X.K γ W (Wk X.K) μ H σ ρ (itD d S1) R at q
    cases d with
    | tup ds =>
      refine .inl (.inr (key fun μ1 H1 x le s1 r => ?_))
      cases r with
      | tup h1 r1 => exact ⟨_, rfl, ⟨_, h1⟩, (q.base le).here s1 (wk_tup h1 r1)⟩
    | ref n =>
      simp only [itD] at q
      split at q
      · refine .inl (.inl (key fun μ1 H1 x le s1 r => ?_))
        obtain ⟨a, vs, rfl, h1, r1, hm⟩ := s1.list r (by assumption)
        exact ⟨a, rfl, ⟨vs, .of h1⟩, (q.base le).here s1 (wk_list hm (.inl rfl))⟩
      · refine .inl (.inl (key fun μ1 H1 x le s1 r => ?_))
        obtain ⟨a, vs, rfl, h1, r1, hm⟩ := s1.roL r (by assumption)
        exact ⟨a, rfl, ⟨vs, h1.sq⟩, (q.base le).here s1 (wk_list hm (.inr rfl))⟩
      · refine .inr (key fun μ1 H1 x le s1 r => ?_)
        obtain ⟨a, o, xs, rfl, h1, r1, hm⟩ := s1.hid r (by assumption)
        exact ⟨a, o, xs, rfl, h1, (q.base le).here s1 (wk_keys h1 r1)⟩
      · exact q.elim
    | _ => exact q.elim
/-! ### tests, parts of slices -/
theorem pt_of {x : Expr} {v : Env → Store → R D} (h : PE X x (tE X.K γ W v)) (he : ∀ whole, isTrue x X.env whole = (do let v ← whole; standAt x.pos; holding [v] (truthy v))) : PT X x (tT X.K γ W fun ρ S => (v ρ S).bind truR) := by
  refine pt_imp (pt_truth h he) fun σ H Q ⟨μ, ρ, S, s, q⟩ => ⟨μ, ρ, S, s, (PostR.bind q).imp fun x H1 ⟨μ1, S1, d, le, s1, r, q1⟩ => ?_⟩
  obtain ⟨b, e, q2⟩ := tru_some q1 s1
  exact ⟨b, tru_of s1 r e, q2⟩
theorem po_of {x : Expr} {v : Env → Store → R D} (h : PE X x (tE X.K γ W v)) : PO X (some x) (tO X.K γ W fun ρ S => (v ρ S).bind optR) := by
  refine po_imp (po_some h) fun σ H Q ⟨μ, ρ, S, s, q⟩ => ⟨μ, ρ, S, s, (PostR.bind q).imp fun x H1 ⟨μ1, S1, d, le, s1, r, q1⟩ => ?_⟩
  cases r <;> first | (exfalso; exact q1) | skip
  exact ⟨_, rfl, q1.here s1 rfl⟩
theorem snd_ofVT {f : Expr → Bool} {v : Env → Store → R D} {t : Env → Store → R Bool} (he : ∀ x, f x = true → PE X x (tE X.K γ W v)) (ht : ∀ x, f x = true → PT X x (tT X.K γ W t)) (hw : ∀ op vs pos, f (.BoolOp op vs pos) = true → PW X (.BoolOp op vs pos) (tT X.K γ W t)) :
    Snd X γ W (ofVT v t) (Ck.ofE f) where
  e := he
  t := ht
  w := hw
  a := fun _ h => nomatch h
  o := fun x h => match x, h with | some x, h => po_of (he x h)
  i := fun x _ h => pi_val (he x h)
  j := fun _ h => nomatch h
  k := fun _ h => nomatch h
theorem snd_ofV {f : Expr → Bool} {v : Env → Store → R D} (h : ∀ x, f x = true → PE X x (tE X.K γ W v) ∧ (∀ whole, isTrue x X.env whole = (do let v ← whole; standAt x.pos; holding [v] (truthy v))) ∧ ∀ op vs pos, x ≠ .BoolOp op vs pos) :
    Snd X γ W (ofV v) (Ck.ofE f) :=
  snd_ofVT (fun x q => (h x q).1) (fun x q => pt_of (h x q).1 (h x q).2.1) fun op vs pos q => absurd rfl ((h _ q).2.2 op vs pos)
theorem snd_no {d : Den} : Snd X γ W d Ck.no where
  e := fun _ h => nomatch h
  t := fun _ h => nomatch h
  w := fun _ _ _ h => nomatch h
  a := fun _ h => nomatch h
  o := fun x h => by cases x <;> cases h
  i := fun _ _ h => nomatch h
  j := fun _ h => nomatch h
  k := fun _ h => nomatch h
end
end Ng

set_option Elab.async false
set_option linter.all false
set_option maxRecDepth 100000
set_option maxHeartbeats 4000000
/-! Every expression that passes the check is read as the engine evaluates it. -/
namespace Ng
open PySem PySem.Spec PyProof.Rows L2
section
variable {X : Cx} {γ : Nat → Value} {W : WX} {Γ : Gam} {P : Nat → List D → Store → R D}
theorem band {a b : Bool} (h : (a && b) = true) : a = true ∧ b = true := by rwa [Bool.and_eq_true] at h
theorem nodbg_of {x : Str} (h : nodbg x = true) : (x == ("__debug__" : Str)) = false ∧ (x == ("__classdict__" : Str)) = false ∧ x ≠ ("__name__" : Str) := by
  unfold nodbg at h
  obtain ⟨h1, h3⟩ := band h
  obtain ⟨h1, h2⟩ := band h1
  refine ⟨by simpa using h1, by simpa using h2, fun e => ?_⟩
  subst e
  simp at h3
theorem vis_of (G : Good X Γ γ W P) {x : Str} (h : visX Γ x = true) : Vis X.env.scope x := by
  unfold visX at h
  rw [G.sc]
  unfold Vis
  split at h <;> simp_all
theorem gl_of (G : Good X Γ γ W P) {x : Str} (h : glX Γ x = true) : Gl X x := by
  unfold glX at h
  show X.env.scope.names.lookup x = some .globalImplicit
  rw [G.sc]
  exact of_decide_eq_true h
theorem bl_of (G : Good X Γ γ W P) {x : Str} (h : blX Γ x = true) : Gl X x ∧ X.mg x = none := by
  obtain ⟨h1, h2⟩ := band h
  exact ⟨gl_of G h1, G.blt x h2⟩
/-! ### leaves -/
theorem snd_var (G : Good X Γ γ W P) (i : Nat) : Snd X γ W (den P (.var i)) (chk (.var i) Γ) := by
  refine snd_ofV fun x h => ?_
  split at h
  case h_2 => cases h
  case h_1 y p =>
    obtain ⟨h1, h3⟩ := band h
    obtain ⟨h1, h2⟩ := band h1
    obtain ⟨n1, n2, n3⟩ := nodbg_of h3
    refine ⟨pe_imp (pe_var (by rw [G.N]; exact of_decide_eq_true h1) (vis_of G h2) n1 n2) fun σ H Q ⟨μ, ρ, S, s, q⟩ => ?_, fun _ => rfl, fun _ _ _ z => nomatch z⟩
    unfold varR at q
    split at q
    case h_2 => exact q.elim
    case h_1 d hd =>
      obtain ⟨v, h4, r⟩ := s.e.2 i d hd
      exact ⟨v, h4, q.here s r⟩
theorem snd_lit {f : Expr → Bool} {d : D} (h : ∀ x, f x = true → (∃ v, PE X x (tC v) ∧ ∀ H μ, RepV X.K H μ d v) ∧ (∀ whole, isTrue x X.env whole = (do let v ← whole; standAt x.pos; holding [v] (truthy v))) ∧ ∀ op vs pos, x ≠ .BoolOp op vs pos) :
    Snd X γ W (ofV fun _ S => .ok d S) (Ck.ofE f) := by
  refine snd_ofV fun x q => ?_
  obtain ⟨⟨v, h1, h2⟩, h3, h4⟩ := h x q
  exact ⟨pe_imp h1 fun σ H Q ⟨μ, ρ, S, s, q⟩ => q.here s (h2 H μ), h3, h4⟩
theorem snd_glb (G : Good X Γ γ W P) (y : Str) (d : D) : Snd X γ W (den P (.glb y d)) (chk (.glb y d) Γ) := by
  refine snd_lit fun x h => ?_
  split at h
  case h_2 => cases h
  case h_1 z p =>
    obtain ⟨h1, h4⟩ := band h
    obtain ⟨h1, h3⟩ := band h1
    obtain ⟨h1, h2⟩ := band h1
    obtain ⟨n1, n2, n3⟩ := nodbg_of h3
    obtain ⟨u, v, g1, g2, g3⟩ := G.glb z (.v d) (of_decide_eq_true h4)
    exact ⟨⟨v, pe_glob (gl_of G h2) g1 g2 n1, g3⟩, fun _ => rfl, fun _ _ _ z => nomatch z⟩
/-! ### operators -/
variable {a b c : E}
theorem snd_bin (o : B2) (ha : Snd X γ W (den P a) (chk a Γ)) (hb : Snd X γ W (den P b) (chk b Γ)) : Snd X γ W (den P (.bin o a b)) (chk (.bin o a b) Γ) := by
  refine snd_ofV fun x h => ?_
  split at h
  case h_2 => cases h
  case h_1 l p r pos =>
    obtain ⟨h1, h3⟩ := band h
    obtain ⟨h1, h2⟩ := band h1
    have e := of_decide_eq_true h1
    subst e
    refine ⟨pe_imp (pe_op (bin_all (γ := γ) (W := W) o) (ha.e _ h2) (hb.e _ h3)) fun σ H Q ⟨μ, ρ, S, s, q⟩ => ?_, fun _ => rfl, fun _ _ _ z => nomatch z⟩
    exact ⟨μ, ρ, S, s, (PostR.bind q).imp fun x H1 ⟨μ1, S1, d1, le1, s1, r1, q1⟩ => ⟨μ1, ρ, S1, s1, (PostR.bind q1).imp fun y H2 ⟨μ2, S2, d2, le2, s2, r2, q2⟩ => ⟨μ2, σ, ρ, S2, d1, d2, s2, r1.mono le2, r2, q2⟩⟩⟩
theorem snd_neg (ha : Snd X γ W (den P a) (chk a Γ)) : Snd X γ W (den P (.neg a)) (chk (.neg a) Γ) := by
  refine snd_ofV fun x h => ?_
  split at h
  case h_2 => cases h
  case h_1 y pos =>
    refine ⟨pe_imp (pe_un (neg_ok (γ := γ) (W := W)) (ha.e _ h)) fun σ H Q ⟨μ, ρ, S, s, q⟩ => ?_, fun _ => rfl, fun _ _ _ z => nomatch z⟩
    exact ⟨μ, ρ, S, s, (PostR.bind q).imp fun x H1 ⟨μ1, S1, d1, le1, s1, r1, q1⟩ => ⟨μ1, σ, ρ, S1, d1, s1, r1, q1⟩⟩
/-- a comparison as a test -/
theorem cmpT_of {K : PySem.W.Frag} {μ : Mu} {H : Hp} {σ : L2.St} {ρ : Env} {S : Store} {o : CO} {x y : D} {Q : Bool → Hp → Prop} (q : PostR K γ W relEq μ H σ ρ (cmpT o x y S) Q) :
    PostR K γ W (relV K) μ H σ ρ (cmpR o x y S) (fun v H' => ∃ k, v = .bl k ∧ Q k H') := by
  unfold cmpT at q
  unfold cmpR
  cases e : cmp2 o x y S with
  | some t =>
    rw [e] at q
    intro μ' H' v le s r
    cases r
    exact ⟨t, rfl, q.later le s rfl⟩
  | none =>
    rw [e] at q
    exact q.elim
theorem snd_cmp (G : Good X Γ γ W P) (o : CO) (ha : Snd X γ W (den P a) (chk a Γ)) (hb : Snd X γ W (den P b) (chk b Γ)) : Snd X γ W (den P (.cmp o a b)) (chk (.cmp o a b) Γ) := by
  have go : ∀ x, (chk (.cmp o a b) Γ).e x = true → ∃ l r pos, x = .Compare l [cmpOf o] [r] pos ∧ (chk a Γ).e l = true ∧ (chk b Γ).e r = true ∧ behindInMarks (cmpOf o) r = false := fun x h => by
    simp only [chk, Ck.ofE] at h
    split at h
    case h_2 => cases h
    case h_1 l p r pos =>
      obtain ⟨h1, h4⟩ := band h
      obtain ⟨h1, h3⟩ := band h1
      obtain ⟨h1, h2⟩ := band h1
      have e := of_decide_eq_true h1
      subst e
      exact ⟨l, r, pos, rfl, h2, h3, by simpa using h4⟩
  refine snd_ofVT (fun x h => ?_) (fun x h => ?_) (fun op vs pos h => ?_)
  · obtain ⟨l, r, pos, rfl, h1, h2, h3⟩ := go x h
    refine pe_imp (pe_cmpR (cmp_all (γ := γ) (W := W) G.un o) (ha.e _ h1) (hb.e _ h2) h3) fun σ H Q ⟨μ, ρ, S, s, q⟩ => ?_
    exact ⟨μ, ρ, S, s, (PostR.bind q).imp fun x H1 ⟨μ1, S1, d1, le1, s1, r1, q1⟩ => ⟨μ1, ρ, S1, s1, (PostR.bind q1).imp fun y H2 ⟨μ2, S2, d2, le2, s2, r2, q2⟩ => ⟨μ2, σ, ρ, S2, d1, d2, s2, r1.mono le2, r2, q2⟩⟩⟩
  · obtain ⟨l, r, pos, rfl, h1, h2, h3⟩ := go x h
    refine pt_imp (pt_cmpR (cmp_all (γ := γ) (W := W) G.un o) (ha.e _ h1) (hb.e _ h2) h3) fun σ H Q ⟨μ, ρ, S, s, q⟩ => ?_
    exact ⟨μ, ρ, S, s, (PostR.bind q).imp fun x H1 ⟨μ1, S1, d1, le1, s1, r1, q1⟩ => ⟨μ1, ρ, S1, s1, (PostR.bind q1).imp fun y H2 ⟨μ2, S2, d2, le2, s2, r2, q2⟩ => ⟨μ2, σ, ρ, S2, d1, d2, s2, r1.mono le2, r2, cmpT_of q2⟩⟩⟩
  · obtain ⟨l, r, pos, e, _⟩ := go (.BoolOp op vs pos) h
    cases e
theorem snd_chain (G : Good X Γ γ W P) (o1 o2 : CO) (ha : Snd X γ W (den P a) (chk a Γ)) (hb : Snd X γ W (den P b) (chk b Γ)) (hc : Snd X γ W (den P c) (chk c Γ)) : Snd X γ W (den P (.chain o1 o2 a b c)) (chk (.chain o1 o2 a b c) Γ) := by
  have go : ∀ x, (chk (.chain o1 o2 a b c) Γ).e x = true → ∃ l r z pos, x = .Compare l [cmpOf o1, cmpOf o2] [r, z] pos ∧ (chk a Γ).e l = true ∧ (chk b Γ).e r = true ∧ (chk c Γ).e z = true ∧ lastMarks [cmpOf o1, cmpOf o2] [r, z] = false := fun x h => by
    simp only [chk, Ck.ofE] at h
    split at h
    case h_2 => cases h
    case h_1 l p p2 r z pos =>
      obtain ⟨h1, h6⟩ := band h
      obtain ⟨h1, h5⟩ := band h1
      obtain ⟨h1, h4⟩ := band h1
      obtain ⟨h1, h3⟩ := band h1
      obtain ⟨h1, h2⟩ := band h1
      have e := of_decide_eq_true h1
      have e2 := of_decide_eq_true h2
      subst e; subst e2
      exact ⟨l, r, z, pos, rfl, h3, h4, h5, by simpa using h6⟩
  refine snd_ofVT (fun x h => ?_) (fun x h => ?_) (fun op vs pos h => ?_)
  · obtain ⟨l, r, z, pos, rfl, h1, h2, h3, h4⟩ := go x h
    refine pe_imp (pe_chain (cmp_all (γ := γ) (W := W) G.un o1) (cmp_all (γ := γ) (W := W) G.un o2) (ha.e _ h1) (hb.e _ h2) (hc.e _ h3) h4) fun σ H Q ⟨μ, ρ, S, s, q⟩ => ?_
    refine ⟨μ, ρ, S, s, (PostR.bind q).imp fun x H1 ⟨μ1, S1, d1, le1, s1, r1, q1⟩ => ⟨μ1, ρ, S1, s1, (PostR.bind q1).imp fun y H2 ⟨μ2, S2, d2, le2, s2, r2, q2⟩ => ?_⟩⟩
    unfold chainV at q2
    split at q2
    case h_1 e =>
      refine ⟨μ2, σ, ρ, S2, d1, d2, s2, r1.mono le2, r2, ?_⟩
      unfold cmpR
      rw [e]
      intro μ3 H3 v3 le3 s3 r3
      cases r3
      refine ⟨true, rfl, ?_⟩
      rw [if_pos rfl]
      exact ⟨μ3, ρ, S2, s3, (PostR.bind (q2.base le3)).imp fun z H4 ⟨μ4, S4, d4, le4, s4, r4, q4⟩ => ⟨μ4, σ, ρ, S4, d2, d4, s4, (r2.mono le3).mono le4, r4, q4⟩⟩
    case h_2 e =>
      refine ⟨μ2, σ, ρ, S2, d1, d2, s2, r1.mono le2, r2, ?_⟩
      unfold cmpR
      rw [e]
      intro μ3 H3 v3 le3 s3 r3
      cases r3
      refine ⟨false, rfl, ?_⟩
      rw [if_neg Bool.false_ne_true]
      exact q2.later le3 s3 (.bl false)
    case h_3 => exact q2.elim
  · obtain ⟨l, r, z, pos, rfl, h1, h2, h3, h4⟩ := go x h
    refine pt_imp (pt_chain (cmp_all (γ := γ) (W := W) G.un o1) (cmp_all (γ := γ) (W := W) G.un o2) (ha.e _ h1) (hb.e _ h2) (hc.e _ h3) h4) fun σ H Q ⟨μ, ρ, S, s, q⟩ => ?_
    refine ⟨μ, ρ, S, s, (PostR.bind q).imp fun x H1 ⟨μ1, S1, d1, le1, s1, r1, q1⟩ => ⟨μ1, ρ, S1, s1, (PostR.bind q1).imp fun y H2 ⟨μ2, S2, d2, le2, s2, r2, q2⟩ => ?_⟩⟩
    unfold chainT at q2
    split at q2
    case h_1 e =>
      refine ⟨μ2, σ, ρ, S2, d1, d2, s2, r1.mono le2, r2, ?_⟩
      unfold cmpR
      rw [e]
      intro μ3 H3 v3 le3 s3 r3
      cases r3
      refine ⟨true, rfl, ?_⟩
      rw [if_pos rfl]
      refine ⟨μ3, ρ, S2, s3, (PostR.bind (q2.base le3)).imp fun z H4 ⟨μ4, S4, d4, le4, s4, r4, q4⟩ => ?_⟩
      exact ⟨μ4, σ, ρ, S4, d2, d4, s4, (r2.mono le3).mono le4, r4, cmpT_of q4⟩
    case h_2 e =>
      refine ⟨μ2, σ, ρ, S2, d1, d2, s2, r1.mono le2, r2, ?_⟩
      unfold cmpR
      rw [e]
      intro μ3 H3 v3 le3 s3 r3
      cases r3
      refine ⟨false, rfl, ?_⟩
      rw [if_neg Bool.false_ne_true]
      exact ⟨false, rfl, q2.later le3 s3 rfl⟩
    case h_3 => exact q2.elim
  · obtain ⟨l, r, z, pos, e, _⟩ := go (.BoolOp op vs pos) h
    cases e
/-! ### not, and, or, a if c else b -/
theorem snd_not (ha : Snd X γ W (den P a) (chk a Γ)) : Snd X γ W (den P (.not a)) (chk (.not a) Γ) := by
  have go : ∀ x, (chk (.not a) Γ).e x = true → ∃ y pos, x = .UnaryOp .Not y pos ∧ (chk a Γ).e y = true := fun x h => by
    simp only [chk, Ck.ofE] at h
    split at h
    case h_2 => cases h
    case h_1 y pos => exact ⟨y, pos, rfl, h⟩
  refine snd_ofVT (fun x h => ?_) (fun x h => ?_) (fun op vs pos h => ?_)
  · obtain ⟨y, pos, rfl, h1⟩ := go x h
    refine pe_imp (pe_notT (ha.e _ h1)) fun σ H Q ⟨μ, ρ, S, s, q⟩ => ?_
    refine ⟨μ, ρ, S, s, (PostR.bind q).imp fun x H1 ⟨μ1, S1, d1, le1, s1, r1, q1⟩ => ?_⟩
    unfold truR at q1
    split at q1
    case h_1 k e => exact ⟨k, tru_of s1 r1 e, PostR.here q1 s1 (.bl _)⟩
    case h_2 => exact q1.elim
  · obtain ⟨y, pos, rfl, h1⟩ := go x h
    refine pt_imp (pt_not (ha.t _ h1)) fun σ H Q ⟨μ, ρ, S, s, q⟩ => ?_
    exact ⟨μ, ρ, S, s, (PostR.bind q).imp fun x H1 ⟨μ1, S1, d1, le1, s1, r1, q1⟩ => by cases r1; exact q1.here s1 rfl⟩
  · obtain ⟨y, pos, e, _⟩ := go (.BoolOp op vs pos) h
    cases e
theorem rest_e {op : BoolOp} {pos : Pos} (hb : Snd X γ W (den P b) (chk b Γ)) : ∀ {r : List Expr}, ckRest (chk b Γ).e op pos r = true → ∃ y r', r = y :: r' ∧ PE X (.BoolOp op r pos) (tE X.K γ W (den P b).v)
  | [], h => nomatch h
  | [y], h => ⟨y, [], rfl, pe_one (hb.e y h)⟩
  | y :: z :: r, h => ⟨y, z :: r, rfl, hb.e _ h⟩
theorem and_t {pos : Pos} (hb : Snd X γ W (den P b) (chk b Γ)) : ∀ {r : List Expr}, ckRest (chk b Γ).e .And pos r = true → PW X (.BoolOp .And r pos) (tT X.K γ W (den P b).t)
  | [], h => nomatch h
  | [y], h => pw_and1 (hb.t y h)
  | y :: z :: r, h => hb.w _ _ _ h
theorem or_t {pos : Pos} (hb : Snd X γ W (den P b) (chk b Γ)) : ∀ {r : List Expr}, ckRest (chk b Γ).e .Or pos r = true → PW X (.BoolOp .Or r pos) (tT X.K γ W (den P b).t)
  | [], h => nomatch h
  | [y], h => pw_or1 (hb.t y h)
  | y :: z :: r, h => hb.w _ _ _ h
theorem snd_and (ha : Snd X γ W (den P a) (chk a Γ)) (hb : Snd X γ W (den P b) (chk b Γ)) : Snd X γ W (den P (.and a b)) (chk (.and a b) Γ) := by
  have go : ∀ x, (chk (.and a b) Γ).e x = true → ∃ y r pos, x = .BoolOp .And (y :: r) pos ∧ (chk a Γ).e y = true ∧ ckRest (chk b Γ).e .And pos r = true := fun x h => by
    simp only [chk, Ck.ofE] at h
    split at h
    case h_2 => cases h
    case h_1 y r pos => obtain ⟨h1, h2⟩ := band h; exact ⟨y, r, pos, rfl, h1, h2⟩
  have tt : ∀ y r pos, (chk a Γ).e y = true → ckRest (chk b Γ).e .And pos r = true → PW X (.BoolOp .And (y :: r) pos) (tT X.K γ W (den P (.and a b)).t) := fun y r pos h1 h2 => by
    obtain ⟨z, r', rfl, _⟩ := rest_e (op := .And) hb h2
    refine pw_imp (pw_and (ha.t _ h1) (and_t hb h2)) fun σ H Q ⟨μ, ρ, S, s, q⟩ => ?_
    refine ⟨μ, ρ, S, s, (PostR.bind q).imp fun x H1 ⟨μ1, S1, d1, le1, s1, r1, q1⟩ => ?_⟩
    have e1 : d1 = x := r1
    subst e1
    cases d1 with
    | true => rw [if_pos rfl]; exact ⟨μ1, ρ, S1, s1, q1⟩
    | false => rw [if_neg Bool.false_ne_true]; exact q1.here s1 rfl
  refine snd_ofVT (fun x h => ?_) (fun x h => ?_) (fun op vs pos h => ?_)
  · obtain ⟨y, r, pos, rfl, h1, h2⟩ := go x h
    obtain ⟨z, r', rfl, h3⟩ := rest_e (op := .And) hb h2
    refine pe_imp (pe_andT (ha.e _ h1) h3) fun σ H Q ⟨μ, ρ, S, s, q⟩ => ?_
    refine ⟨μ, ρ, S, s, (PostR.bind q).imp fun x H1 ⟨μ1, S1, d1, le1, s1, r1, q1⟩ => ?_⟩
    unfold andR at q1
    split at q1
    case h_1 e => exact ⟨true, tru_of s1 r1 e, by rw [if_pos rfl]; exact ⟨μ1, ρ, S1, s1, q1⟩⟩
    case h_2 e => exact ⟨false, tru_of s1 r1 e, by rw [if_neg Bool.false_ne_true]; exact q1.here s1 r1⟩
    case h_3 => exact q1.elim
  · obtain ⟨y, r, pos, rfl, h1, h2⟩ := go x h
    exact (tt y r pos h1 h2).pt
  · obtain ⟨y, r, pos', e, h1, h2⟩ := go (.BoolOp op vs pos) h
    cases e
    exact tt y r pos h1 h2
theorem snd_or (ha : Snd X γ W (den P a) (chk a Γ)) (hb : Snd X γ W (den P b) (chk b Γ)) : Snd X γ W (den P (.or a b)) (chk (.or a b) Γ) := by
  have go : ∀ x, (chk (.or a b) Γ).e x = true → ∃ y r pos, x = .BoolOp .Or (y :: r) pos ∧ (chk a Γ).e y = true ∧ ckRest (chk b Γ).e .Or pos r = true := fun x h => by
    simp only [chk, Ck.ofE] at h
    split at h
    case h_2 => cases h
    case h_1 y r pos => obtain ⟨h1, h2⟩ := band h; exact ⟨y, r, pos, rfl, h1, h2⟩
  have tt : ∀ y r pos, (chk a Γ).e y = true → ckRest (chk b Γ).e .Or pos r = true → PW X (.BoolOp .Or (y :: r) pos) (tT X.K γ W (den P (.or a b)).t) := fun y r pos h1 h2 => by
    obtain ⟨z, r', rfl, _⟩ := rest_e (op := .Or) hb h2
    refine pw_imp (pw_or (ha.t _ h1) (or_t hb h2)) fun σ H Q ⟨μ, ρ, S, s, q⟩ => ?_
    refine ⟨μ, ρ, S, s, (PostR.bind q).imp fun x H1 ⟨μ1, S1, d1, le1, s1, r1, q1⟩ => ?_⟩
    have e1 : d1 = x := r1
    subst e1
    cases d1 with
    | true => rw [if_pos rfl]; exact q1.here s1 rfl
    | false => rw [if_neg Bool.false_ne_true]; exact ⟨μ1, ρ, S1, s1, q1⟩
  refine snd_ofVT (fun x h => ?_) (fun x h => ?_) (fun op vs pos h => ?_)
  · obtain ⟨y, r, pos, rfl, h1, h2⟩ := go x h
    obtain ⟨z, r', rfl, h3⟩ := rest_e (op := .Or) hb h2
    refine pe_imp (pe_orT (ha.e _ h1) h3) fun σ H Q ⟨μ, ρ, S, s, q⟩ => ?_
    refine ⟨μ, ρ, S, s, (PostR.bind q).imp fun x H1 ⟨μ1, S1, d1, le1, s1, r1, q1⟩ => ?_⟩
    unfold orR at q1
    split at q1
    case h_1 e => exact ⟨true, tru_of s1 r1 e, by rw [if_pos rfl]; exact q1.here s1 r1⟩
    case h_2 e => exact ⟨false, tru_of s1 r1 e, by rw [if_neg Bool.false_ne_true]; exact ⟨μ1, ρ, S1, s1, q1⟩⟩
    case h_3 => exact q1.elim
  · obtain ⟨y, r, pos, rfl, h1, h2⟩ := go x h
    exact (tt y r pos h1 h2).pt
  · obtain ⟨y, r, pos', e, h1, h2⟩ := go (.BoolOp op vs pos) h
    cases e
    exact tt y r pos h1 h2
theorem snd_ite (hc : Snd X γ W (den P c) (chk c Γ)) (ha : Snd X γ W (den P a) (chk a Γ)) (hb : Snd X γ W (den P b) (chk b Γ)) : Snd X γ W (den P (.ite c a b)) (chk (.ite c a b) Γ) := by
  have go : ∀ x, (chk (.ite c a b) Γ).e x = true → ∃ t y z pos, x = .IfExp t y z pos ∧ (chk c Γ).e t = true ∧ (chk a Γ).e y = true ∧ (chk b Γ).e z = true := fun x h => by
    simp only [chk, Ck.ofE] at h
    split at h
    case h_2 => cases h
    case h_1 t y z pos => obtain ⟨h1, h3⟩ := band h; obtain ⟨h1, h2⟩ := band h1; exact ⟨t, y, z, pos, rfl, h1, h2, h3⟩
  refine snd_ofVT (fun x h => ?_) (fun x h => ⟨fun pins s σ H Q I ⟨μ, ρ, S, s1, q⟩ => q.elim⟩) (fun op vs pos h => ?_)
  · obtain ⟨t, y, z, pos, rfl, h1, h2, h3⟩ := go x h
    refine pe_imp (pe_ifExp (hc.t _ h1) (ha.e _ h2) (hb.e _ h3)) fun σ H Q ⟨μ, ρ, S, s, q⟩ => ?_
    refine ⟨μ, ρ, S, s, (PostR.bind q).imp fun x H1 ⟨μ1, S1, d1, le1, s1, r1, q1⟩ => ?_⟩
    have e1 : d1 = x := r1
    subst e1
    cases d1 with
    | true => rw [if_pos rfl]; exact ⟨μ1, ρ, S1, s1, q1⟩
    | false => rw [if_neg Bool.false_ne_true]; exact ⟨μ1, ρ, S1, s1, q1⟩
  · obtain ⟨t, y, z, pos, e, _⟩ := go (.BoolOp op vs pos) h
    cases e
/-! ### arguments, displays -/
/-- no star in a text that passes -/
theorem star_of (ha : Snd X γ W (den P a) (chk a Γ)) : ∀ x, (chk a Γ).e x = true → ∀ es, starEach (x :: es) X.env = (false, eval x X.env) :: starEach es X.env := by
  intro x h es
  cases x <;> first | rfl | skip
  rename_i y p
  exfalso
  cases a <;> simp [chk, Ck.ofE, Ck.no] at h
theorem snd_nil : Snd X γ W (den P .nil) (chk .nil Γ) where
  k := fun xs h => by
    cases xs with
    | nil => exact ⟨[], .nil, fun σ H T ⟨μ, ρ, S, s, q⟩ => q.here s .nil⟩
    | cons => cases h
  e := fun _ h => nomatch h
  t := fun _ h => nomatch h
  w := fun _ _ _ h => nomatch h
  a := fun xs h => by
    cases xs with
    | nil => exact pa_imp pa_nil fun σ H Q ⟨μ, ρ, S, s, q⟩ => q.here s .nil
    | cons => cases h
  o := fun x h => by
    cases x with
    | none => exact po_imp po_none fun σ H Q ⟨μ, ρ, S, s, q⟩ => q.here s rfl
    | some => cases h
  i := fun _ _ h => nomatch h
  j := fun xs h => by
    cases xs with
    | nil => exact ⟨[], .nil, fun acc σ H Q ⟨μ, ρ, S, s, q⟩ => q.here s rfl⟩
    | cons => cases h
theorem snd_cons (ha : Snd X γ W (den P a) (chk a Γ)) (hb : Snd X γ W (den P b) (chk b Γ)) : Snd X γ W (den P (.cons a b)) (chk (.cons a b) Γ) where
  k := fun xs h => by
    cases xs with
    | nil => cases h
    | cons x r =>
      obtain ⟨h1, h2⟩ := band h
      obtain ⟨ts, pk, hk⟩ := hb.k _ h2
      refine ⟨_, .cons (ha.e _ h1) pk, fun σ H T ⟨μ, ρ, S, s, q⟩ => ?_⟩
      exact ⟨μ, ρ, S, s, (PostR.bind q).imp fun v H1 ⟨μ1, S1, d1, le1, s1, r1, q1⟩ => hk σ H1 _ ⟨μ1, ρ, S1, s1, (PostR.bind q1).imp fun y H2 ⟨μ2, S2, d2, le2, s2, r2, q2⟩ => q2.here s2 (.cons (r1.mono le2) r2)⟩⟩
  e := fun _ h => nomatch h
  t := fun _ h => nomatch h
  w := fun _ _ _ h => nomatch h
  a := fun xs h => by
    cases xs with
    | nil => cases h
    | cons x r =>
      obtain ⟨h1, h2⟩ := band h
      refine pa_imp (pa_cons (ha.e _ h1) (hb.a _ h2) (star_of ha x h1 r)) fun σ H Q ⟨μ, ρ, S, s, q⟩ => ?_
      exact ⟨μ, ρ, S, s, (PostR.bind q).imp fun x H1 ⟨μ1, S1, d1, le1, s1, r1, q1⟩ => ⟨μ1, ρ, S1, s1, (PostR.bind q1).imp fun y H2 ⟨μ2, S2, d2, le2, s2, r2, q2⟩ => q2.here s2 (.cons (r1.mono le2) r2)⟩⟩
  o := fun _ h => nomatch h
  i := fun _ _ h => nomatch h
  j := fun xs h => by
    cases xs with
    | nil => cases h
    | cons x r =>
      obtain ⟨h1, h2⟩ := band h
      obtain ⟨ts, pj, hj⟩ := hb.j _ h2
      refine ⟨_, .cons (ha.e _ h1) pj, fun acc σ H Q ⟨μ, ρ, S, s, q⟩ => ?_⟩
      refine ⟨μ, ρ, S, s, (PostR.bind q).imp fun v H1 ⟨μ1, S1, d1, le1, s1, r1, q1⟩ => ?_⟩
      unfold catJ at q1
      split at q1
      case h_2 => exact q1.elim
      case h_1 y =>
        cases r1
        split at q1
        case isFalse => exact q1.elim
        case isTrue hz => exact ⟨y, rfl, by rw [← linesz_eq]; exact hz, hj _ σ H1 Q ⟨μ1, ρ, S1, s1, q1⟩⟩
theorem snd_tup (ha : Snd X γ W (den P a) (chk a Γ)) : Snd X γ W (den P (.tup a)) (chk (.tup a) Γ) := by
  refine snd_ofV fun x h => ?_
  split at h
  case h_2 => cases h
  case h_1 es k pos =>
    refine ⟨pe_imp (pe_tup (ha.a _ h)) fun σ H Q ⟨μ, ρ, S, s, q⟩ => ?_, fun _ => rfl, fun _ _ _ z => nomatch z⟩
    refine ⟨μ, ρ, S, s, (PostR.bind q).imp fun xs H1 ⟨μ1, S1, d1, le1, s1, r1, q1⟩ => ?_⟩
    unfold tupR at q1
    split at q1
    case isTrue hz => exact ⟨by rw [RepVs.length r1, ← linesz_eq]; exact hz, q1.newT s1 r1⟩
    case isFalse => exact q1.elim
theorem snd_lst (ha : Snd X γ W (den P a) (chk a Γ)) : Snd X γ W (den P (.lst a)) (chk (.lst a) Γ) := by
  refine snd_ofV fun x h => ?_
  split at h
  case h_2 => cases h
  case h_1 es pos =>
    refine ⟨pe_imp (pe_lst (ha.a _ h)) fun σ H Q ⟨μ, ρ, S, s, q⟩ => ?_, fun _ => rfl, fun _ _ _ z => nomatch z⟩
    refine ⟨μ, ρ, S, s, (PostR.bind q).imp fun xs H1 ⟨μ1, S1, d1, le1, s1, r1, q1⟩ => ?_⟩
    unfold lstR at q1
    split at q1
    case isTrue hz => exact ⟨by rw [RepVs.length r1, ← linesz_eq]; exact hz, q1.newL s1 r1⟩
    case isFalse => exact q1.elim
theorem snd_fjs (ha : Snd X γ W (den P a) (chk a Γ)) : Snd X γ W (den P (.fjs a)) (chk (.fjs a) Γ) := by
  refine snd_ofV fun x h => ?_
  split at h
  case h_2 => cases h
  case h_1 v1 v2 rest pos =>
    obtain ⟨ts, pj, hj⟩ := ha.j _ h
    refine ⟨pe_imp (pe_joined pj) fun σ H Q ⟨μ, ρ, S, s, q⟩ => ?_, fun _ => rfl, fun _ _ _ z => nomatch z⟩
    exact hj Str.empty σ H _ ⟨μ, ρ, S, s, (PostR.bind q).imp fun y H1 ⟨μ1, S1, d1, le1, s1, r1, q1⟩ => by cases r1; exact q1.here s1 (.str _)⟩
theorem snd_fmt (ha : Snd X γ W (den P a) (chk a Γ)) : Snd X γ W (den P (.fmt a)) (chk (.fmt a) Γ) := by
  refine snd_ofV fun x h => ?_
  split at h
  case h_2 => cases h
  case h_1 e c pos =>
    obtain ⟨h1, h2⟩ := band h
    obtain rfl := of_decide_eq_true h1
    refine ⟨pe_imp (pe_fmt (ha.e _ h2)) fun σ H Q ⟨μ, ρ, S, s, q⟩ => ?_, fun _ => rfl, fun _ _ _ z => nomatch z⟩
    refine ⟨μ, ρ, S, s, (PostR.bind q).imp fun v H1 ⟨μ1, S1, d1, le1, s1, r1, q1⟩ => ?_⟩
    unfold fmtR at q1
    split at q1
    · cases r1
      split at q1
      · rename_i hz; exact .inl ⟨_, rfl, by rw [← linesz_eq]; exact hz, q1.here s1 (.str _)⟩
      · exact q1.elim
    · cases r1
      split at q1
      · rename_i hz; exact .inr ⟨_, rfl, hz, q1.here s1 (.str _)⟩
      · exact q1.elim
    · exact q1.elim
theorem no_slice : ∀ i, (chk b Γ).e i = true → ∀ l u s p, i ≠ .Slice l u s p := fun i h l u s p e => by
  subst e
  cases b <;> simp [chk, Ck.ofE, Ck.no] at h
theorem plain_ix (hb : ∀ l u s p, b' ≠ Expr.Slice l u s p) : PlainIx b' := fun o i => by
  cases b' <;> first | rfl | exact absurd rfl (hb _ _ _ _)
theorem snd_ix (G : Good X Γ γ W P) (ha : Snd X γ W (den P a) (chk a Γ)) (hb : Snd X γ W (den P b) (chk b Γ)) : Snd X γ W (den P (.ix a b)) (chk (.ix a b) Γ) := by
  refine snd_ofV fun x h => ?_
  split at h
  case h_2 => cases h
  case h_1 o i pos =>
    obtain ⟨h1, h2⟩ := band h
    refine ⟨pe_imp (pe_ix (ix_all (γ := γ) (W := W) (by have := G.un; omega)) (ha.e _ h1) (hb.e _ h2) (plain_ix (no_slice i h2))) fun σ H Q ⟨μ, ρ, S, s, q⟩ => ?_, fun _ => rfl, fun _ _ _ z => nomatch z⟩
    exact ⟨μ, ρ, S, s, (PostR.bind q).imp fun x H1 ⟨μ1, S1, d1, le1, s1, r1, q1⟩ => ⟨μ1, ρ, S1, s1, (PostR.bind q1).imp fun y H2 ⟨μ2, S2, d2, le2, s2, r2, q2⟩ => ⟨μ2, σ, ρ, S2, d1, d2, s2, r1.mono le2, r2, q2⟩⟩⟩
/-! ### displays of dicts with tuple keys -/
theorem snd_dd0 : Snd X γ W (den P .dd0) (chk .dd0 Γ) := by
  refine snd_ofV fun x h => ?_
  split at h
  case h_2 => cases h
  case h_1 pos =>
    refine ⟨pe_imp pe_dnewX fun σ H Q ⟨μ, ρ, S, s, q⟩ => fun p hp => ?_, fun _ => rfl, fun _ _ _ z => nomatch z⟩
    exact q (μ ++ [p]) _ _ (le_newP hp) (s.alloc hp ⟨_, upd_same, .nil⟩) (.ref (s.ref p))
theorem snd_dd1 {v : E} (G : Good X Γ γ W P) (ha : Snd X γ W (den P a) (chk a Γ)) (hv : Snd X γ W (den P v) (chk v Γ)) : Snd X γ W (den P (.dd1 a v)) (chk (.dd1 a v) Γ) := by
  refine snd_ofV fun x h => ?_
  split at h
  case h_2 => cases h
  case h_1 kx vx pos =>
    obtain ⟨h1, h2⟩ := band h
    refine ⟨pe_imp (pe_dispX (by have := G.un; omega) (pps_cons (ha.e _ h1) (hv.e _ h2) pps_nil) rfl rfl (by simp) (by simp)) fun σ H Q ⟨μ, ρ, S, s, q⟩ => fun p hp => ?_, fun _ => rfl, fun _ _ _ z => nomatch z⟩
    have s1 : Sim X.K (μ ++ [p]) σ (upd H p (DX p [])) ρ (S ++ [.dct []]) := s.alloc hp ⟨_, upd_same, .nil⟩
    refine ⟨μ ++ [p], ρ, S ++ [.dct []], s1, (PostR.bind (PostR.base (le_newP hp) q)).imp fun x H1 ⟨μ1, S1, d1, le1, s2, r1, q1⟩ => ⟨μ1, ρ, S1, s2, (PostR.bind q1).imp fun y H2 ⟨μ2, S2, d2, le2, s3, r2, q2⟩ => ?_⟩⟩
    exact dd_done (ps := [(d1, d2)]) s3 (le2.at (le1.at (s.ref p))) (.cons ⟨r1.mono le2, r2⟩ .nil) (by simp) q2
theorem snd_dd2 {v k2 v2 : E} (G : Good X Γ γ W P) (ha : Snd X γ W (den P a) (chk a Γ)) (hv : Snd X γ W (den P v) (chk v Γ)) (ha2 : Snd X γ W (den P k2) (chk k2 Γ)) (hv2 : Snd X γ W (den P v2) (chk v2 Γ)) : Snd X γ W (den P (.dd2 a v k2 v2)) (chk (.dd2 a v k2 v2) Γ) := by
  refine snd_ofV fun x h => ?_
  split at h
  case h_2 => cases h
  case h_1 kx kx2 vx vx2 pos =>
    obtain ⟨h, h4⟩ := band h
    obtain ⟨h, h3⟩ := band h
    obtain ⟨h1, h2⟩ := band h
    refine ⟨pe_imp (pe_dispX (by have := G.un; omega) (pps_cons (ha.e _ h1) (hv.e _ h2) (pps_cons (ha2.e _ h3) (hv2.e _ h4) pps_nil)) rfl rfl (by simp) (by simp)) fun σ H Q ⟨μ, ρ, S, s, q⟩ => fun p hp => ?_, fun _ => rfl, fun _ _ _ z => nomatch z⟩
    have s1 : Sim X.K (μ ++ [p]) σ (upd H p (DX p [])) ρ (S ++ [.dct []]) := s.alloc hp ⟨_, upd_same, .nil⟩
    refine ⟨μ ++ [p], ρ, S ++ [.dct []], s1, (PostR.bind (PostR.base (le_newP hp) q)).imp fun x H1 ⟨μ1, S1, d1, le1, s2, r1, q1⟩ => ⟨μ1, ρ, S1, s2, (PostR.bind q1).imp fun y H2 ⟨μ2, S2, d2, le2, s3, r2, q2⟩ =>
      ⟨μ2, ρ, S2, s3, (PostR.bind q2).imp fun x2 H3 ⟨μ3, S3, d3, le3, s4, r3, q3⟩ => ⟨μ3, ρ, S3, s4, (PostR.bind q3).imp fun y2 H4 ⟨μ4, S4, d4, le4, s5, r4, q4⟩ => ?_⟩⟩⟩⟩
    exact dd_done (ps := [(d1, d2), (d3, d4)]) s5 (le4.at (le3.at (le2.at (le1.at (s.ref p))))) (.cons ⟨((r1.mono le2).mono le3).mono le4, (r2.mono le3).mono le4⟩ (.cons ⟨r3.mono le4, r4⟩ .nil)) (by simp) q4
/-! ### displays of dicts with text keys -/
theorem pps_of {pos : Pos} : ∀ {ks : List Str} {keys : List (Option Expr)} {values : List Expr} {ts : List (Env → Store → R D)}, ckKeys ks keys = true → PKs X γ W values ts → ks.length = values.length → PPs X pos keys values ((ks.zip ts).map fun q => (tC (.str q.1), tE X.K γ W q.2))
  | [], [], [], _, _, .nil, _ => pps_nil
  | [], [], _ :: _, _, _, _, h => by simp at h
  | [], _ :: _, _, _, h, _, _ => nomatch h
  | _ :: _, _, [], _, _, _, h => by simp at h
  | k :: ks, [], _ :: _, _, h, _, _ => nomatch h
  | k :: ks, none :: keys, _ :: _, _, h, _, _ => nomatch h
  | k :: ks, some x :: keys, v :: vs, _, h, .cons hv r, hl => by
    cases x <;> first | (cases h; done) | skip
    rename_i c j p
    cases c <;> first | (cases h; done) | skip
    obtain ⟨h1, h2⟩ := band h
    have e := of_decide_eq_true h1
    subst e
    exact pps_cons pe_str hv (pps_of h2 r (by simpa using hl))
theorem pairs_of {σ : L2.St} : ∀ {ks : List Str} {ts : List (Env → Store → R D)} {H : Hp} {T : List V → Hp → Prop} {R : List (V × V) → Hp → Prop}, ks.length = ts.length → (∀ us H2, us.length = ks.length → T us H2 → R ((ks.zip us).map fun q => (V.str q.1, q.2)) H2) → tKs X.K γ W ts σ H T → tPairs ((ks.zip ts).map fun q => (tC (.str q.1), tE X.K γ W q.2)) σ H R
  | [], [], H, T, R, _, i, h => i [] H rfl h
  | [], _ :: _, _, _, _, hl, _, _ => by simp at hl
  | _ :: _, [], _, _, _, hl, _, _ => by simp at hl
  | k :: ks, t :: ts, H, T, R, hl, i, h => by
    show tE X.K γ W t σ H fun y H2 => tPairs ((ks.zip ts).map fun q => (tC (.str q.1), tE X.K γ W q.2)) σ H2 fun ps H3 => R ((V.str k, y) :: ps) H3
    exact tE_imp h fun y H2 h2 => pairs_of (by simpa using hl) (fun us H3 hu ht => i (y :: us) H3 (by simp [hu]) ht) h2
theorem pks_len : ∀ {xs : List Expr} {ts : List (Env → Store → R D)}, PKs X γ W xs ts → ts.length = xs.length
  | [], _, .nil => rfl
  | _ :: _, _, .cons _ r => by simp [pks_len r]
theorem merge_new : ∀ (kvs acc : List (L2.Key × V)), (kvs.map (·.1)).Nodup → (∀ p ∈ kvs, ∀ q ∈ acc, q.1 ≠ p.1) → mergeK acc kvs = acc ++ kvs
  | [], acc, _, _ => by simp [mergeK]
  | p :: kvs, acc, hn, hd => by
    rw [List.map_cons, List.nodup_cons] at hn
    have e : putK acc p.1 p.2 = acc ++ [p] := by
      unfold putK
      rw [if_neg]
      rw [List.any_eq_true]
      rintro ⟨q, hq, e⟩
      exact hd p List.mem_cons_self q hq (of_decide_eq_true e)
    show mergeK (putK acc p.1 p.2) kvs = _
    rw [e, merge_new kvs (acc ++ [p]) hn.2 (fun q hq r hr => by
      rcases List.mem_append.mp hr with hr | hr
      · exact hd q (List.mem_cons_of_mem _ hq) r hr
      · simp at hr; subst hr
        exact fun z => hn.1 (by rw [z]; exact List.mem_map_of_mem hq))]
    simp
theorem zip_map1 {α β : Type} : ∀ {xs : List α} {ys : List β}, xs.length = ys.length → (xs.zip ys).map (·.1) = xs ∧ (xs.zip ys).map (·.2) = ys
  | [], [], _ => ⟨rfl, rfl⟩
  | [], _ :: _, h => by simp at h
  | _ :: _, [], h => by simp at h
  | x :: xs, y :: ys, h => by
    obtain ⟨a, b⟩ := zip_map1 (xs := xs) (ys := ys) (by simpa using h)
    simp [a, b]
theorem snd_kdd (ks : List Str) (ha : Snd X γ W (den P a) (chk a Γ)) : Snd X γ W (den P (.kdd ks a)) (chk (.kdd ks a) Γ) := by
  refine snd_ofV fun x h => ?_
  split at h
  case h_2 => cases h
  case h_1 keys values pos =>
    obtain ⟨h, h5⟩ := band h
    obtain ⟨h, h4⟩ := band h
    obtain ⟨h, h3⟩ := band h
    obtain ⟨h1, h2⟩ := band h
    have h3 := of_decide_eq_true h3
    have h4 := of_decide_eq_true h4
    have h5 := of_decide_eq_true h5
    obtain ⟨ts, pk, hk⟩ := ha.k _ h2
    have hts := pks_len pk
    have hkl : ∀ {ks : List Str} {keys : List (Option Expr)}, ckKeys ks keys = true → keys.length = ks.length ∧ keys.all (·.isSome) = true := by
      intro ks
      induction ks with
      | nil => intro keys h; cases keys with
        | nil => exact ⟨rfl, rfl⟩
        | cons => cases h
      | cons k ks ih =>
        intro keys h
        cases keys with
        | nil => cases h
        | cons x r =>
          cases x with
          | none => cases h
          | some x =>
            cases x <;> first | (cases h; done) | skip
            rename_i c j p
            cases c <;> first | (cases h; done) | skip
            obtain ⟨_, h2⟩ := band h
            obtain ⟨i1, i2⟩ := ih h2
            exact ⟨by simp [i1], by simp [i2]⟩
    obtain ⟨k1, k2⟩ := hkl h1
    refine ⟨pe_imp (pe_disp (pps_of h1 pk h3) k2 (by rw [k1, h3]) (fun e => by rw [e] at k1; simp at k1; omega) (by rw [k1]; exact h5)) fun σ H Q ⟨μ, ρ, S, s, q⟩ => fun p hp => ?_, fun _ => rfl, fun _ _ _ z => nomatch z⟩
    have s1 : Sim X.K (μ ++ [p]) σ (upd H p (.dK [])) ρ (S ++ [.dk []]) := s.alloc hp ⟨_, upd_same, rfl, .nil⟩
    refine pairs_of (by rw [hts]; exact h3) ?_ (hk σ _ _ ⟨μ ++ [p], ρ, S ++ [.dk []], s1, PostR.bind (PostR.base (le_newP hp) q)⟩)
    rintro us H2 hul ⟨μ1, S1, ds, le1, s2, r1, q1⟩
    unfold kddR at q1
    split at q1
    case h_2 => exact q1.elim
    case h_1 hS =>
      split at q1
      case isFalse => exact q1.elim
      case isTrue hz =>
        obtain ⟨z1, z2, z3⟩ := hz
        have hm : μ1[S.length]? = some p := le1.at (s.ref p)
        obtain ⟨a', gs, ea, hH, g1, g2, _⟩ := s2.dk (.ref hm) hS
        cases ea
        have eg : gs = [] := by cases gs with | nil => rfl | cons => simp at g1
        subst eg
        have hzl := zip_map1 (xs := ks.map (Sum.inr : Str → L2.Key)) (ys := us) (by simp [hul])
        have hzd := zip_map1 (xs := ks.map (Sum.inr : Str → L2.Key)) (ys := ds) (by simp [z1])
        refine ⟨hH, (ks.map Sum.inr).zip us, ?_, by simp [hul]; omega, ?_⟩
        · clear q1 q hk pk hkl
          rw [List.zip_map_left, List.map_map]
          rfl
        · have nd : ((ks.map (Sum.inr : Str → L2.Key)).zip us).map (·.1) |>.Nodup := by
            rw [hzl.1]
            exact (List.pairwise_map.mpr (z2.imp fun {a b} h e => h (Sum.inr.inj e)))
          rw [merge_new _ [] nd (fun _ _ _ h => by cases h), List.nil_append]
          have le2 : Le X.K μ1 H2 μ1 (upd H2 p (.dK ((ks.map Sum.inr).zip us))) := le_updC hH nt_dk
          exact q1 μ1 _ _ le2 ⟨s2.e.mono le2, s2.s.writeC hS hm hH nt_dk rfl rfl ⟨_, upd_same, by rw [hzl.1, hzd.1], by rw [hzl.2, hzd.2]; exact r1.mono le2⟩⟩ (.ref hm)
/-! ### an expression while a dict is walked -/
theorem snd_lk (o : E) (ha : Snd X γ W (den P a) (chk a Γ)) : Snd X γ W (den P (.lk o a)) (chk (.lk o a) Γ) := by
  refine snd_ofV fun x h => ?_
  split at h
  case h_2 => cases h
  case h_1 el gs sc pos =>
    refine ⟨pe_imp (pe_lock (ha.e _ h)) fun σ H Q ⟨μ, ρ, S, s, q⟩ => ?_, fun _ => rfl, fun _ _ _ z => nomatch z⟩
    change PostR X.K γ W (relV X.K) μ H σ ρ (lkR ((den P o).v ρ S) ((den P a).v ρ) S) Q at q
    unfold lkR at q
    split at q
    case h_2 => exact q.elim
    case h_1 n S0 _ =>
      split at q
      case h_2 => exact q.elim
      case h_1 kvs hS =>
        obtain ⟨b, hm, xs, hH, rx⟩ := s.s.at hS
        refine ⟨b, DX b xs, hH, True.intro, fun od => ?_⟩
        have le1 : Le X.K μ H μ (upd H b (.frz od (DX b xs))) := le_updC hH nt_dx
        have sl : Sim X.K μ σ (upd H b (.frz od (DX b xs))) ρ (S.set n (.hid kvs)) := ⟨s.e.mono le1, s.s.writeC hS hm hH nt_dx rfl rfl ⟨od, xs, upd_same, rx.mono le1⟩⟩
        refine ⟨μ, ρ, S.set n (.hid kvs), sl, ?_⟩
        cases hr : (den P a).v ρ (S.set n (.hid kvs)) with
        | bad => rw [hr] at q; exact q.elim
        | exc c fs S2 => rw [hr] at q; exact q.elim
        | ok d S2 =>
          rw [hr] at q
          simp only at q
          split at q
          case isFalse => exact q.elim
          case isTrue hS2 =>
            intro μ' H' v le s2 rv
            have hF : H' b = some (.frz od (DX b xs)) := le.fz b od xs upd_same
            have hm' : μ'[n]? = some b := le.at hm
            refine ⟨hF, ?_⟩
            refine q μ' (upd H' b (DX b xs)) v ⟨le.pre, fun c ys hc => (le0_unl (K := X.K) (μ := μ) hF).tup c ys (le.tup c ys (le1.tup c ys hc)), fun c u ys hc => ?_⟩ ⟨s2.e.mono0 (le0_unl hF), s2.s.unl hS2 hm' hF⟩ (RepV.mono0 (le0_unl hF) rv)
            have hne : c ≠ b := fun e => by
              subst e
              rw [hH] at hc
              injection hc with hc
              unfold DX at hc
              cases hc
            rw [upd_ne hne]
            exact le.fz c u ys (by rw [upd_ne hne]; exact hc)
/-- an item of a written dict, by a number -/
def rIxI (K : PySem.W.Frag) : R2 := fun x y H Q => ∃ p z v, x = .ref p ∧ y = .int z ∧ (∃ es n u, K.lookup p = some ⟨.type "dict", none, .dict es n, #[]⟩ ∧ (∀ e ∈ es, ∃ i t, e.key = .int i t ∧ e.hash = hashInt i) ∧ findBy Value.isInt es z = some u ∧ RelV v u) ∧ Q v H
theorem ix_idict {X : Cx} : IxR X (rIxI X.K) := by
  intro value slice pins s σ H x y v u Q I rx ry h hs
  obtain ⟨p, z, r, rfl, rfl, ⟨es, n, u0, hl, hk, e, ru⟩, q⟩ := h
  obtain rfl : v = Value.ref p := rx
  obtain ⟨t, rfl⟩ := ry
  have hm : s.heap.MapOf (PySem.intKind X.prog X.w) p (fun k => findBy Value.isInt es k) := ⟨_, es, n, I.kIn _ _ hl, ⟨rfl, rfl, rfl⟩, rfl, fun e he => by
    obtain ⟨i, t, e1, e2⟩ := hk e he
    exact ⟨i, by rw [e1]; exact PySem.intKind_is X.prog X.w i t, e2⟩, fun _ => rfl⟩
  exact tail_any hm.typeIs slot_dict_getitem.lookup (wpAny_getItem_of (PySem.intKind_is X.prog X.w z t) hm e ⟨r, H, I.tok _, ru, q⟩) hs
theorem snd_gix (G : Good X Γ γ W P) (y : Str) (kvs : List (Int × D)) (ha : Snd X γ W (den P a) (chk a Γ)) : Snd X γ W (den P (.gix y kvs a)) (chk (.gix y kvs a) Γ) := by
  refine snd_ofV fun x h => ?_
  split at h
  case h_2 => cases h
  case h_1 z p i pos =>
    obtain ⟨k4, h5⟩ := band h
    obtain ⟨k3, h4⟩ := band k4
    obtain ⟨k2, h3⟩ := band k3
    obtain ⟨k1, h2⟩ := band k2
    obtain ⟨n1, n2, n3⟩ := nodbg_of h3
    obtain ⟨ad, es, n, g1, gl, gk, g3⟩ := G.glb z (.i kvs) (of_decide_eq_true h4)
    refine ⟨pe_imp (pe_ix (ix_idict (X := X)) (pe_glob (v := .ref ad) (gl_of G h2) g1 rfl n1) (ha.e _ h5) (plain_ix (no_slice i h5))) fun σ H Q ⟨μ, ρ, S, s, q⟩ => ?_, fun _ => rfl, fun _ _ _ z => nomatch z⟩
    refine ⟨μ, ρ, S, s, (PostR.bind q).imp fun x H1 ⟨μ1, S1, d1, le1, s1, r1, q1⟩ => ?_⟩
    unfold gixR at q1
    split at q1
    case h_2 => exact q1.elim
    case h_1 t =>
      cases r1
      split at q1
      case h_2 => exact q1.elim
      case h_1 d e =>
        obtain ⟨u, v, g5, g6, g7⟩ := g3 t d e
        exact ⟨ad, t, v, rfl, rfl, ⟨es, n, u, gl, gk, g5, g6⟩, q1.here s1 (g7 _ _)⟩
theorem snd_gdx (G : Good X Γ γ W P) (y : Str) (kvs : List (Str × D)) (ha : Snd X γ W (den P a) (chk a Γ)) : Snd X γ W (den P (.gdx y kvs a)) (chk (.gdx y kvs a) Γ) := by
  refine snd_ofV fun x h => ?_
  split at h
  case h_2 => cases h
  case h_1 z p i pos =>
    obtain ⟨k4, h5⟩ := band h
    obtain ⟨k3, h4⟩ := band k4
    obtain ⟨k2, h3⟩ := band k3
    obtain ⟨k1, h2⟩ := band k2
    obtain ⟨n1, n2, n3⟩ := nodbg_of h3
    obtain ⟨ad, es, n, g1, D, g3⟩ := G.glb z (.d kvs) (of_decide_eq_true h4)
    refine ⟨pe_imp (pe_ix (ix_kdict (X := X)) (pe_glob (v := .ref ad) (gl_of G h2) g1 rfl n1) (ha.e _ h5) (plain_ix (no_slice i h5))) fun σ H Q ⟨μ, ρ, S, s, q⟩ => ?_, fun _ => rfl, fun _ _ _ z => nomatch z⟩
    refine ⟨μ, ρ, S, s, (PostR.bind q).imp fun x H1 ⟨μ1, S1, d1, le1, s1, r1, q1⟩ => ?_⟩
    unfold gdxR at q1
    split at q1
    case h_2 => exact q1.elim
    case h_1 t =>
      cases r1
      split at q1
      case h_2 => exact q1.elim
      case h_1 d e =>
        have g4 := g3 t
        rw [e] at g4
        obtain ⟨u, v, g5, g6, g7⟩ := g4
        exact ⟨ad, t, v, rfl, rfl, ⟨es, n, u, D.at_, D.lit, g5, g6⟩, q1.here s1 (g7 _ _)⟩
theorem kv_some {K : PySem.W.Frag} {ad : Addr} {t : Str} {o : Option D} (h : KvAt K ad t o) : ∃ r, PySem.W.nsIn K ad t = some r ∧ r.isSome = o.isSome := by
  cases o with
  | none => exact ⟨none, h, rfl⟩
  | some d => obtain ⟨u, v, h1, _⟩ := h; exact ⟨some u, h1, rfl⟩
theorem snd_gdin (G : Good X Γ γ W P) (y : Str) (kvs : List (Str × D)) (neg : Bool) (ha : Snd X γ W (den P a) (chk a Γ)) : Snd X γ W (den P (.gdin y kvs neg a)) (chk (.gdin y kvs neg a) Γ) := by
  have go : ∀ x, (chk (.gdin y kvs neg a) Γ).e x = true → ∃ l p z q pos ad es n, x = .Compare l [p] [.Name z q] pos ∧ p = (if neg then .NotIn else .In) ∧ (chk a Γ).e l = true ∧ behindInMarks p (.Name z q) = false ∧ PE X (.Name z q) (tC (.ref ad)) ∧ KDict X.K X.w ad es n ∧ ∀ z, KvAt X.K ad z (kvs.lookup z) := fun x h => by
    simp only [chk, Ck.ofE] at h
    split at h
    case h_2 => cases h
    case h_1 l p z q pos =>
      obtain ⟨k6, h7⟩ := band h
      obtain ⟨k5, h6⟩ := band k6
      obtain ⟨k4, h5⟩ := band k5
      obtain ⟨k3, h4⟩ := band k4
      obtain ⟨k2, h3⟩ := band k3
      obtain ⟨k1, h2⟩ := band k2
      obtain ⟨n1, n2, n3⟩ := nodbg_of h4
      obtain ⟨ad, es, n, g1, D, g3⟩ := G.glb z (.d kvs) (of_decide_eq_true h5)
      exact ⟨l, p, z, q, pos, ad, es, n, rfl, of_decide_eq_true k1, h6, by simpa using h7, pe_glob (v := .ref ad) (gl_of G h3) g1 rfl n1, D, g3⟩
  have opR : ∀ {ad es n}, KDict X.K X.w ad es n → (∀ z, KvAt X.K ad z (kvs.lookup z)) → OpR X (compareOp (if neg then .NotIn else .In)) (fun x y H Q => ∃ t, x = .str t ∧ y = .ref ad ∧ Q (.bl (if neg then !(kvs.lookup t).isSome else (kvs.lookup t).isSome)) H) := fun {ad es n} D g => by
    cases neg with
    | true =>
      refine opR_imp (op_notIn_kd D) fun x y H Q ⟨t, e1, e2, q⟩ => ?_
      obtain ⟨r, h1, h2⟩ := kv_some (g t)
      exact ⟨t, r, e1, e2, h1, by rw [h2]; exact q⟩
    | false =>
      refine opR_imp (op_in_kd D) fun x y H Q ⟨t, e1, e2, q⟩ => ?_
      obtain ⟨r, h1, h2⟩ := kv_some (g t)
      exact ⟨t, r, e1, e2, h1, by rw [h2]; exact q⟩
  refine snd_ofVT (fun x h => ?_) (fun x h => ?_) (fun op vs pos h => ?_)
  · obtain ⟨l, p, z, q, pos, ad, es, n, rfl, rfl, h1, h2, h3, D, g⟩ := go x h
    refine pe_imp (pe_cmpR (opR D g) (ha.e _ h1) h3 h2) fun σ H Q ⟨μ, ρ, S, s, q⟩ => ?_
    refine ⟨μ, ρ, S, s, (PostR.bind q).imp fun x H1 ⟨μ1, S1, d1, le1, s1, r1, q1⟩ => ?_⟩
    unfold gdinR at q1
    split at q1
    case h_2 => exact q1.elim
    case h_1 t =>
      cases r1
      exact ⟨t, rfl, rfl, q1.here s1 (.bl _)⟩
  · obtain ⟨l, p, z, q, pos, ad, es, n, rfl, rfl, h1, h2, h3, D, g⟩ := go x h
    refine pt_imp (pt_cmpR (opR D g) (ha.e _ h1) h3 h2) fun σ H Q ⟨μ, ρ, S, s, q⟩ => ?_
    refine ⟨μ, ρ, S, s, (PostR.bind q).imp fun x H1 ⟨μ1, S1, d1, le1, s1, r1, q1⟩ => ?_⟩
    unfold gdinT at q1
    split at q1
    case h_2 => exact q1.elim
    case h_1 t =>
      cases r1
      exact ⟨t, rfl, rfl, _, rfl, q1.here s1 rfl⟩
  · obtain ⟨l, p, z, q, pos, ad, es, n, e, _⟩ := go (.BoolOp op vs pos) h
    cases e
theorem snd_slc {lo hi : E} (ha : Snd X γ W (den P a) (chk a Γ)) (hl : Snd X γ W (den P lo) (chk lo Γ)) (hh : Snd X γ W (den P hi) (chk hi Γ)) : Snd X γ W (den P (.slc a lo hi)) (chk (.slc a lo hi) Γ) := by
  refine snd_ofV fun x h => ?_
  split at h
  case h_2 => cases h
  case h_1 o l u p2 pos =>
    obtain ⟨h1, h3⟩ := band h
    obtain ⟨h1, h2⟩ := band h1
    refine ⟨pe_imp (pe_slice (slc_all (γ := γ) (W := W)) (ha.e _ h1) (hl.o _ h2) (hh.o _ h3)) fun σ H Q ⟨μ, ρ, S, s, q⟩ => ?_, fun _ => rfl, fun _ _ _ z => nomatch z⟩
    refine ⟨μ, ρ, S, s, (PostR.bind q).imp fun x H1 ⟨μ1, S1, d1, le1, s1, r1, q1⟩ => ⟨μ1, ρ, S1, s1, (PostR.bind q1).imp fun l H2 ⟨μ2, S2, o2, le2, s2, r2, q2⟩ => ⟨μ2, ρ, S2, s2, (PostR.bind q2).imp fun u H3 ⟨μ3, S3, o3, le3, s3, r3, q3⟩ => ?_⟩⟩⟩
    cases r2; cases r3
    exact ⟨μ3, σ, ρ, S3, d1, s3, (RepV.mono le2 r1).mono le3, q3⟩
end
end Ng

set_option Elab.async false
set_option linter.all false
set_option maxRecDepth 100000
set_option maxHeartbeats 4000000
/-! Calls, built-ins, methods, comprehensions. -/
namespace Ng
open PySem PySem.Spec PyProof.Rows L2
section
variable {X : Cx} {γ : Nat → Value} {W : WX} {Γ : Gam} {P : Nat → List D → Store → R D} {a b c : E}
theorem star1 : ∀ (a : E) x, (chk a Γ).e x = true → ∀ es env, starEach (x :: es) env = (false, eval x env) :: starEach es env := by
  intro a x h es env
  cases x <;> first | rfl | skip
  rename_i y p
  exfalso
  cases a <;> simp [chk, Ck.ofE, Ck.no] at h
theorem nostar : ∀ (a : E) es, (chk a Γ).a es = true → ∀ env pos, (backTo pos (starEach es env)).any (·.1) = false
  | .nil, es, h, env, pos => by
    cases es with
    | nil => rfl
    | cons => cases h
  | .cons a as, es, h, env, pos => by
    cases es with
    | nil => cases h
    | cons x r =>
      obtain ⟨h1, h2⟩ := band h
      have ih := nostar as r h2 env pos
      rw [star1 a x h1]
      show (false || (backTo pos (starEach r env)).any (·.1)) = false
      rw [ih]; rfl
  | .var _, _, h, _, _ => nomatch h
  | .non, _, h, _, _ => nomatch h
  | .bl _, _, h, _, _ => nomatch h
  | .int _, _, h, _, _ => nomatch h
  | .str _, _, h, _, _ => nomatch h
  | .glb _ _, _, h, _, _ => nomatch h
  | .bin _ _ _, _, h, _, _ => nomatch h
  | .neg _, _, h, _, _ => nomatch h
  | .cmp _ _ _, _, h, _, _ => nomatch h
  | .chain _ _ _ _ _, _, h, _, _ => nomatch h
  | .not _, _, h, _, _ => nomatch h
  | .and _ _, _, h, _, _ => nomatch h
  | .or _ _, _, h, _, _ => nomatch h
  | .ite _ _ _, _, h, _, _ => nomatch h
  | .tup _, _, h, _, _ => nomatch h
  | .lst _, _, h, _, _ => nomatch h
  | .ix _ _, _, h, _, _ => nomatch h
  | .slc _ _ _, _, h, _, _ => nomatch h
  | .call _ _, _, h, _, _ => nomatch h
  | .bi _ _, _, h, _, _ => nomatch h
  | .me _ _ _, _, h, _, _ => nomatch h
  | .isi _ _ _, _, h, _, _ => nomatch h
  | .rng _, _, h, _, _ => nomatch h
  | .enm _, _, h, _, _ => nomatch h
  | .zp _, _, h, _, _ => nomatch h
  | .dd0, _, h, _, _ => nomatch h
  | .kdd _ _, _, h, _, _ => nomatch h
  | .pop0 _, _, h, _, _ => nomatch h
  | .lk _ _, _, h, _, _ => nomatch h
  | .dd1 _ _, _, h, _, _ => nomatch h
  | .dd2 _ _ _ _, _, h, _, _ => nomatch h
  | .bln _, _, h, _, _ => nomatch h
  | .gix _ _ _, _, h, _, _ => nomatch h
  | .fjs _, _, h, _, _ => nomatch h
  | .fmt _, _, h, _, _ => nomatch h
  | .sm _ _ _, _, h, _, _ => nomatch h
  | .sm0 _ _, _, h, _, _ => nomatch h
  | .gdx _ _ _, _, h, _, _ => nomatch h
  | .gdin _ _ _ _, _, h, _, _ => nomatch h
  | .lrv _, _, h, _, _ => nomatch h
  | .itm _, _, h, _, _ => nomatch h
  | .lc _ _ _ _ _, _, h, _, _ => nomatch h
  | .fld _ _ _, _, h, _, _ => nomatch h
  | .mth _ _ _ _ _, _, h, _, _ => nomatch h
  | .lc2 _ _ _ _ _ _ _, _, h, _, _ => nomatch h
/-- the first of some arguments -/
theorem star_a : ∀ (a : E) e es, (chk a Γ).a (e :: es) = true → ∀ env, starEach (e :: es) env = (false, eval e env) :: starEach es env ∧ ∀ pos, (backTo pos (starEach es env)).any (·.1) = false := by
  intro a e es h env
  cases a <;> first | (exfalso; revert h; simp [chk, Ck.ofE, Ck.no]; done) | skip
  rename_i a as
  obtain ⟨h1, h2⟩ := band h
  exact ⟨star1 a e h1 es env, fun pos => nostar as es h2 env pos⟩
/-! ### own defs -/
theorem pe_callS0 {CX : CXT} {k : Nat} {f : Addr} {fd : FuncData} {ps : List Str} {sp : Sp} {E : L2.St → XK} {x : Str} {p pos : Pos} (F : FnOk X.prog X.w X.K X.mg X.base CX k f fd ps sp) (hr : Room k X.A) (hg : Gl X x) (hm : X.mg x = some (.ref f)) (hk : PySem.W.keepIn X.K (.ref f) = true)
    (hb : Binds X.K fd ps []) (hx : ∀ σ, PassesAt CX X σ (E σ)) (hdb : (x == ("__debug__" : Str)) = false) : PE X (.Call (.Name x p) [] [] pos) (tCallSD sp [] E tNil) := by
  refine ⟨fun pins s σ H Q I h => ?_⟩
  refine wpAny_Call_Name_kw (ld_glob I hg hm ?_ hdb)
  exact PySem.W.callWith_K0 I.kIn hk (run_fnSD (us := []) F hr hb .nil (hx σ) I .nil h)
theorem sp_of {np f : Nat} {μ : Mu} {σ : L2.St} {H : Hp} {ρ : Env} {S : Store} {ds : List D} {vs : List V} {Q : VK} (hl : ∀ ds S, P f ds S ≠ .bad → ds.length = np) (s : Sim X.K μ σ H ρ S) (r : RepVs X.K H μ ds vs) (q : PostR X.K γ W (relV X.K) μ H σ ρ (P f ds S) Q) :
    spF X.K γ P np f vs H Q (WE W σ) := by
  refine ⟨?_, μ, S, ds, s.s, r, ?_⟩
  · rw [r.length]
    refine hl ds S fun e => ?_
    rw [e] at q
    exact q
  · cases e : P f ds S with
    | ok d S' =>
      rw [e] at q
      exact fun μ' v H' le rs rv => q μ' H' v le ⟨s.e.mono le, rs⟩ rv
    | exc c fs S' =>
      rw [e] at q
      exact fun μ' H' d le rs x => q μ' H' d le ⟨s.e.mono le, rs⟩ x
    | bad => rw [e] at q; exact q
/-- C(..), by values -/
theorem pe_mkG {C f : Addr} {R : List V → L2.St → Hp → VK → Prop} {x : Str} {p pos : Pos} {e : Expr} {es : List Expr} {t : TA} (M : Mk X.K C f) (hg : Gl X x) (hm : X.mg x = some (.ref C)) (ha : PA X (e :: es) t) (hdb : (x == ("__debug__" : Str)) = false)
    (he : starEach (e :: es) X.env = (false, eval e X.env) :: starEach es X.env) (hpl : (backTo pos (starEach es X.env)).any (·.1) = false)
    (run : ∀ (pins : List (Addr × Obj)) (σ : L2.St) (H : Hp) (s : Shared) (us : List Value) (vs : List V) (Q : VK), Inv X pins σ H s → Vals vs us → R vs σ H Q → wpAny (model X.prog X.w) X.A (PySem.call (.ref C) us) (EP X pins σ Q) X.xe s) :
    PE X (.Call (.Name x p) (e :: es) [] pos) (fun σ H Q => t σ H fun vs H1 => R vs σ H1 Q) := by
  refine ⟨fun pins s σ H Q I h => ?_⟩
  refine wpAny_Call_Name_kw (ld_glob I hg hm ?_ hdb)
  refine PySem.W.callWith_K (h₀ := X.base) I.ok.mod.kin M.kp (thn (ha.run pos pins s σ H _ I h) fun us s1 ⟨vs, H1, I1, r, q⟩ => ⟨I1.kIn, ?_⟩) he hpl
  exact run pins σ H1 s1 us vs Q I1 r q
theorem pe_mkG0 {C f : Addr} {R : List V → L2.St → Hp → VK → Prop} {x : Str} {p pos : Pos} (M : Mk X.K C f) (hg : Gl X x) (hm : X.mg x = some (.ref C)) (hdb : (x == ("__debug__" : Str)) = false)
    (run : ∀ (pins : List (Addr × Obj)) (σ : L2.St) (H : Hp) (s : Shared) (us : List Value) (vs : List V) (Q : VK), Inv X pins σ H s → Vals vs us → R vs σ H Q → wpAny (model X.prog X.w) X.A (PySem.call (.ref C) us) (EP X pins σ Q) X.xe s) :
    PE X (.Call (.Name x p) [] [] pos) (fun σ H Q => R [] σ H Q) := by
  refine ⟨fun pins s σ H Q I h => ?_⟩
  refine wpAny_Call_Name_kw (ld_glob I hg hm ?_ hdb)
  exact PySem.W.callWith_K0 I.kIn M.kp (run pins σ H s [] [] Q I .nil h)
theorem run_mkSD {CX : CXT} {C f : Addr} {fd : FuncData} {k : Nat} {ps : List Str} {sp : Sp} {E : XK} {pins : List (Addr × Obj)} {σ : L2.St} {H : Hp} {s : Shared} {Q : VK} {us : List Value} {vs : List V} (M : Mk X.K C f) (F : FnOk X.prog X.w X.K X.mg X.base CX k f fd ps sp) (hr : Room (k + 1) X.A) (hb : Binds X.K fd ps [])
    (hx : PassesAt CX X σ E) (I : Inv X pins σ H s) (r : Vals vs us)
    (h : ∀ x dx, H x = none → H dx = none → dx ≠ x → sp (.ref x :: vs) (upd (upd H dx (.own x)) x (.ins C dx [])) (fun v H2 => v = .non ∧ Q (.ref x) H2) E) :
    wpAny (model X.prog X.w) X.A (PySem.call (.ref C) us) (EP X pins σ Q) X.xe s := by
  have hq := h (s.heap.objs.size + 1) s.heap.objs.size (I.hok.fresh (Nat.le_succ _)) (I.hok.fresh (Nat.le_refl _)) (Nat.ne_of_lt (Nat.lt_succ_self _))
  have I2 := Inv.made (C := C) I
  have r2 : Vals (V.ref (s.heap.objs.size + 1) :: vs) (Value.ref (s.heap.objs.size + 1) :: us) := .cons rfl r
  have hl : ((Value.ref (s.heap.objs.size + 1) :: us) ++ []).length = ps.length := by
    have e := r2.length
    rw [F.len _ _ _ _ hq] at e
    rw [List.append_nil]
    exact e.symm
  have hbb := hb _ (Value.ref (s.heap.objs.size + 1) :: us) I2.kIn hl
  rw [List.append_nil] at hbb
  refine wpAny_call (make_map (f := f) I.kIn M.makes M.init (beq_iff_eq.mp M.fn) (codeAny_mono (F.run _ X.stack _ _ ⟨Value.ref (s.heap.objs.size + 1) :: us, []⟩ (Value.ref (s.heap.objs.size + 1) :: us) _ _ E (hr.make C us [])
    (I2.env0.make C us []) hbb r2 hq) fun r s' hq' => ?_))
  cases r with
  | error e => exact hx pins _ _ e s' I2 hq'
  | ok fl =>
    cases fl with
    | ret u =>
      obtain ⟨v, H', I3, rv, ev, q3⟩ := I2.after hq'
      subst ev
      exact ⟨rv, ⟨V.ref (s.heap.objs.size + 1), H', I3, rfl, q3⟩⟩
    | next => exact False.elim hq'
    | brk => exact False.elim hq'
    | cont => exact False.elim hq'
/-- what a constructor asks of the values -/
def rMk (K : PySem.W.Frag) (γ : Nat → Value) (W : WX) (f : List D → Store → R D) (vs : List V) (σ : L2.St) (H : Hp) (Q : VK) : Prop :=
  ∃ μ ρ S ds, Sim K μ σ H ρ S ∧ RepVs K H μ ds vs ∧ PostR K γ W (relV K) μ H σ ρ (f ds S) Q
theorem run_mk (G : Good X Γ γ W P) {f : Nat} {c : Str} {C addr : Addr} (M : Mk X.K C addr) (hc : PySem.W.nsIn X.K mainGlobals c = some (some (.ref C)))
    (h : (∀ ds S, P f ds S = .bad) ∨ ∃ k fd ps g P', (∀ ds S, P f ds S = mkR c (P' g) ds S) ∧ FnP X.prog X.w X.K X.mg X.base γ P' g k addr fd ps ∧ Room (k + 1) X.A) {pins : List (Addr × Obj)} {σ : L2.St} {H : Hp} {s : Shared} {us : List Value} {vs : List V} {Q : VK}
    (I : Inv X pins σ H s) (r : Vals vs us) (q : rMk X.K γ W (P f) vs σ H Q) : wpAny (model X.prog X.w) X.A (PySem.call (.ref C) us) (EP X pins σ Q) X.xe s := by
  obtain ⟨μ, ρ, S, ds, sm, rv, q⟩ := q
  rcases h with h | ⟨k, fd, ps, g, P', hP, F, hr⟩
  · rw [h] at q; exact q.elim
  · rw [hP] at q
    refine run_mkSD M F.ok hr F.bnd (passAt G.tk σ) I r fun x dx hx hdx hne => ?_
    have hx1 : (upd H dx (.own x)) x = none := by rw [upd_ne hne.symm]; exact hx
    have rs : RepS X.K (upd (upd H dx (.own x)) x (.ins C dx [])) (μ ++ [x]) (S ++ [.ins c []]) := (sm.s.new hdx).alloc hx1 ⟨_, upd_same, hc, rfl, .nil⟩
    have le : Le X.K μ H (μ ++ [x]) (upd (upd H dx (.own x)) x (.ins C dx [])) := (le_new hdx).trans (le_newP hx1)
    have rx : RepV X.K (upd (upd H dx (.own x)) x (.ins C dx [])) (μ ++ [x]) (.ref S.length) (.ref x) := .ref (sm.ref x)
    refine ⟨?_, μ ++ [x], S ++ [.ins c []], .ref S.length :: ds, rs, .cons rx (rv.mono le), ?_⟩
    · have hb : P' g (.ref S.length :: ds) (S ++ [.ins c []]) ≠ .bad := fun e => by
        unfold mkR at q
        rw [e] at q
        exact q
      have := F.len _ _ hb
      rw [← this, List.length_cons, List.length_cons, rv.length]
    · cases e : P' g (.ref S.length :: ds) (S ++ [.ins c []]) with
      | bad => unfold mkR at q; rw [e] at q; exact q
      | exc cc fs S' =>
        unfold mkR at q
        rw [e] at q
        exact fun μ' H' d le2 rs2 x2 => q μ' H' d (le.trans le2) ⟨sm.e.mono (le.trans le2), rs2⟩ x2
      | ok d S' =>
        unfold mkR at q
        rw [e] at q
        change PostR X.K γ W (relV X.K) μ H σ ρ (if d = .non then .ok (.ref S.length) S' else .bad) Q at q
        by_cases hd : d = .non
        · rw [if_pos hd] at q
          subst hd
          intro μ' v H' le2 rs2 rv2
          cases rv2
          exact ⟨rfl, q μ' H' _ (le.trans le2) ⟨sm.e.mono (le.trans le2), rs2⟩ (rx.mono le2)⟩
        · rw [if_neg hd] at q; exact q.elim
theorem snd_call (G : Good X Γ γ W P) (f : Nat) (ha : Snd X γ W (den P a) (chk a Γ)) : Snd X γ W (den P (.call f a)) (chk (.call f a) Γ) := by
  refine snd_ofV fun x h => ?_
  split at h
  case h_2 => cases h
  case h_1 x p es pos =>
    obtain ⟨h1, h5⟩ := band h
    obtain ⟨h1, h4⟩ := band h1
    obtain ⟨h1, h3⟩ := band h1
    obtain ⟨h1, h2⟩ := band h1
    obtain ⟨n1, n2, n3⟩ := nodbg_of h4
    have e0 : es = [] → evs P a = fun ρ S => .ok [] S := fun e => by
      subst e
      cases a <;> first | rfl | (exfalso; revert h5; simp [chk, Ck.ofE, Ck.no]; done)
    rw [Bool.or_eq_true] at h2
    refine ⟨?_, fun _ => rfl, fun _ _ _ z => nomatch z⟩
    rcases h2 with h2 | h2
    · obtain ⟨k, addr, fd, ps, F, hr, hm, hk⟩ := G.fns h1 f _ (of_decide_eq_true h2)
      cases es with
      | nil =>
        refine pe_imp (pe_callS0 F.ok hr (gl_of G h3) hm hk F.bnd (fun σ => passAt G.tk σ) n1) fun σ H Q ⟨μ, ρ, S, s, q⟩ => ?_
        change PostR X.K γ W (relV X.K) μ H σ ρ ((evs P a ρ S).bind fun ds S1 => P f ds S1) Q at q
        rw [e0 rfl] at q
        exact sp_of F.len s .nil q
      | cons e es =>
        obtain ⟨s1, s2⟩ := star_a a e es h5 X.env
        refine pe_imp (pe_callSD F.ok hr (gl_of G h3) hm hk F.bnd .nil (fun σ => passAt G.tk σ) (ha.a _ h5) n1 s1 (s2 pos)) fun σ H Q ⟨μ, ρ, S, s, q⟩ => ?_
        refine ⟨μ, ρ, S, s, (PostR.bind q).imp fun xs H1 ⟨μ1, S1, ds, le1, s1, r1, q1⟩ => ?_⟩
        rw [List.append_nil]
        exact sp_of F.len s1 r1 q1
    · obtain ⟨C, addr, hc, hm, M, hh⟩ := G.fns h1 f _ (of_decide_eq_true h2)
      have run := fun (pins : List (Addr × Obj)) (σ : L2.St) (H : Hp) (s : Shared) (us : List Value) (vs : List V) (Q : VK) (I : Inv X pins σ H s) (r : Vals vs us) (q : rMk X.K γ W (P f) vs σ H Q) => run_mk G M hc hh I r q
      cases es with
      | nil =>
        refine pe_imp (pe_mkG0 M (gl_of G h3) hm n1 run) fun σ H Q ⟨μ, ρ, S, s, q⟩ => ?_
        change PostR X.K γ W (relV X.K) μ H σ ρ ((evs P a ρ S).bind fun ds S1 => P f ds S1) Q at q
        rw [e0 rfl] at q
        exact ⟨μ, ρ, S, [], s, .nil, q⟩
      | cons e es =>
        obtain ⟨s1, s2⟩ := star_a a e es h5 X.env
        refine pe_imp (pe_mkG M (gl_of G h3) hm (ha.a _ h5) n1 s1 (s2 pos) run) fun σ H Q ⟨μ, ρ, S, s, q⟩ => ?_
        exact ⟨μ, ρ, S, s, (PostR.bind q).imp fun xs H1 ⟨μ1, S1, ds, le1, s1, r1, q1⟩ => ⟨μ1, ρ, S1, ds, s1, r1, q1⟩⟩
/-! ### built-ins -/
theorem vs1 {K : PySem.W.Frag} {μ : Mu} {H : Hp} {d : D} {xs : List V} (r : RepVs K H μ [d] xs) : ∃ v, xs = [v] ∧ RepV K H μ d v := by
  cases r with
  | cons r1 r2 => cases r2; exact ⟨_, rfl, r1⟩
theorem vs2 {K : PySem.W.Frag} {μ : Mu} {H : Hp} {d e : D} {xs : List V} (r : RepVs K H μ [d, e] xs) : ∃ v u, xs = [v, u] ∧ RepV K H μ d v ∧ RepV K H μ e u := by
  cases r with
  | cons r1 r2 =>
    cases r2 with
    | cons r2 r3 => cases r3; exact ⟨_, _, rfl, r1, r2⟩
theorem vs3 {K : PySem.W.Frag} {μ : Mu} {H : Hp} {d e f : D} {xs : List V} (r : RepVs K H μ [d, e, f] xs) : ∃ v u w, xs = [v, u, w] ∧ RepV K H μ d v ∧ RepV K H μ e u ∧ RepV K H μ f w := by
  cases r with
  | cons r1 r2 =>
    obtain ⟨u, w, rfl, h1, h2⟩ := vs2 r2
    exact ⟨_, u, w, rfl, r1, h1, h2⟩
theorem bls_of {K : PySem.W.Frag} {μ : Mu} {H : Hp} : ∀ {ds : List D} {vs : List V} {bs : List Bool}, RepVs K H μ ds vs → blsD ds = some bs → vs = bs.map V.bl
  | [], _, _, .nil, e => by cases e; rfl
  | d :: ds, _, _, .cons r rs, e => by
    cases d <;> simp only [blsD] at e <;> first | (cases e; done) | skip
    simp only [Option.map_eq_some_iff] at e
    obtain ⟨bs, e1, rfl⟩ := e
    cases r
    rw [bls_of rs e1]; rfl
theorem ints_of {K : PySem.W.Frag} {μ : Mu} {H : Hp} : ∀ {ds : List D} {vs : List V} {bs : List Int}, RepVs K H μ ds vs → intsD ds = some bs → vs = bs.map V.int
  | [], _, _, .nil, e => by cases e; rfl
  | d :: ds, _, _, .cons r rs, e => by
    cases d <;> simp only [intsD] at e <;> first | (cases e; done) | skip
    simp only [Option.map_eq_some_iff] at e
    obtain ⟨bs, e1, rfl⟩ := e
    cases r
    rw [ints_of rs e1]; rfl
theorem bi_len : CallR X (.builtin "len") (callV X.K γ W (biD .len)) := by
  refine callR_imp ((call_len_seq.or call_len_str).or call_lenX) fun xs H Q ⟨μ, σ, ρ, S, ds, s, r, q⟩ => ?_
  cases ds with
  | nil => exact q.elim
  | cons d ds =>
    cases ds with
    | cons => cases d <;> exact q.elim
    | nil =>
      obtain ⟨v, rfl, rv⟩ := vs1 r
      have key : ∀ xs, seqD S d = some xs → PostR X.K γ W (relV X.K) μ H σ ρ (.ok (.int xs.length) S) Q → (∃ p ys, [v] = [V.ref p] ∧ (SqL X.K H p ys ∨ SqT X.K H p ys) ∧ Q (.int ys.length) H) := fun xs e q => by
        obtain ⟨p, vs, rfl, hq, r1⟩ := s.seq rv e
        exact ⟨p, vs, rfl, hq, by rw [r1.length]; exact q.here s (.int _)⟩
      cases d with
      | str x =>
        cases rv
        simp only [biD] at q
        split at q
        case isTrue hz => exact .inl (.inr ⟨x, rfl, by rw [← linesz_eq]; exact hz, q.here s (.int _)⟩)
        case isFalse => exact q.elim
      | tup es => exact .inl (.inl (key es rfl q))
      | ref n =>
        simp only [biD] at q
        split at q
        case h_1 xs e => exact .inl (.inl (key xs e q))
        case h_2 =>
          split at q
          case h_2 => exact q.elim
          case h_1 k hk =>
            simp only [dctN] at hk
            split at hk
            case h_2 => cases hk
            case h_1 kvs hS =>
              cases hk
              obtain ⟨a, xs, rfl, hH, rx, _⟩ := s.dct rv hS
              exact .inr ⟨a, xs, rfl, hH, rx.kx, by rw [← rx.length]; exact q.here s (.int _)⟩
      | _ => exact q.elim
theorem prs_of {K : PySem.W.Frag} {μ : Mu} {H : Hp} : ∀ {ds : List D} {vs : List V} {ps : List (Int × Int)}, RepVs K H μ ds vs → prsD ds = some ps → Paired (PrV K H) vs ps
  | [], _, ps, .nil, e => by cases e; exact .nil
  | d :: ds, v :: vs, ps, .cons r rs, e => by
    unfold prsD at e
    split at e
    case h_1 => rename_i h; cases h
    case h_3 => cases e
    case h_2 i j r' h =>
      cases h
      rw [Option.map_eq_some_iff] at e
      obtain ⟨qs, e1, rfl⟩ := e
      refine .cons ?_ (prs_of rs e1)
      cases r with
      | tup hq rr =>
        cases rr with
        | cons r1 rr =>
          cases rr with
          | cons r2 rr =>
            cases rr
            cases r1
            cases r2
            exact ⟨_, rfl, hq⟩
theorem prs_rep {K : PySem.W.Frag} {μ : Mu} {H : Hp} : ∀ {vs : List V} {ps : List (Int × Int)}, Paired (PrV K H) vs ps → RepVs K H μ (ps.map prD) vs
  | [], _, .nil => .nil
  | v :: vs, p :: ps, .cons h t => by
    obtain ⟨a, rfl, hq⟩ := h
    exact .cons (.tup hq (.cons (.int _) (.cons (.int _) .nil))) (prs_rep t)
theorem kpr_of {K : PySem.W.Frag} {μ : Mu} {H : Hp} : ∀ {kvs : List (List Int × D)} {xs : List (List Int × Addr × Value)} {ps : List (Int × Int)}, KVX K H μ kvs xs → prsK (kvs.map (·.1)) = some ps → KPr xs ps
  | kvs, xs, ps, r, e => by
    have h1 : xs.map (·.1) = kvs.map (·.1) := by
      clear e
      induction r with
      | nil => rfl
      | cons h t ih => simp only [List.map_cons, ih, h.1]
    have h2 : ∀ (ks : List (List Int)) (ps : List (Int × Int)), prsK ks = some ps → ks = ps.map fun p => [p.1, p.2] := by
      intro ks
      induction ks with
      | nil => intro ps e; cases e; rfl
      | cons k ks ih =>
        intro ps e
        unfold prsK at e
        split at e
        case h_1 h => cases h
        case h_3 => cases e
        case h_2 i j r' h =>
          cases h
          rw [Option.map_eq_some_iff] at e
          obtain ⟨qs, e1, rfl⟩ := e
          rw [ih qs e1]; rfl
    unfold KPr
    rw [h1, h2 _ _ e]
theorem bi_sorted (hc : X.calm = true) : CallR X (.builtin "sorted") (callV X.K γ W (biD .sorted)) := by
  refine callR_imp (cr_sortedX.or (cr_sortedDX hc)) fun xs H Q ⟨μ, σ, ρ, S, ds, s, r, q⟩ => ?_
  unfold biD at q
  split at q <;> first | contradiction | (cases q; done) | skip
  rename_i n _
  obtain ⟨v, rfl, rv⟩ := vs1 r
  split at q
  case h_2 =>
    split at q
    case h_2 => exact q.elim
    case h_1 ps e =>
      unfold dctPs at e
      split at e
      case h_2 => cases e
      case h_1 kvs hS =>
        obtain ⟨a, xs, rfl, hH, rx, _⟩ := s.dct rv hS
        refine .inr ⟨a, xs, ps, rfl, hH, rx.kx, kpr_of rx e, fun ys p hy hp => ?_⟩
        have le : Le X.K μ H (μ ++ [p]) (upd H p (.lst ys)) := le_newP hp
        have hy2 : Paired (PrV X.K (upd H p (.lst ys))) ys (srtP ps) := Paired.mapP hy fun x q ⟨t, e, hq⟩ => ⟨t, e, le.tup _ _ hq⟩
        exact q (μ ++ [p]) _ _ le (s.alloc hp ⟨ys, upd_same, prs_rep hy2⟩) (.ref (s.ref p))
  case h_1 ps e =>
    obtain ⟨es, e1, e2⟩ := Option.bind_eq_some_iff.mp e
    have hq : ∃ a vs, v = .ref a ∧ SqL X.K H a vs ∧ RepVs X.K H μ es vs := by
      simp only [seqD] at e1
      split at e1
      · cases e1
        obtain ⟨a, vs, h1, h2, h3, _⟩ := s.list rv (by assumption)
        exact ⟨a, vs, h1, .of h2, h3⟩
      · cases e1
        obtain ⟨a, vs, h1, h2, h3, _⟩ := s.roL rv (by assumption)
        exact ⟨a, vs, h1, h2.sq, h3⟩
      · cases e1
    obtain ⟨a, vs, rfl, h1, h2⟩ := hq
    refine .inl ⟨a, vs, ps, rfl, h1, prs_of h2 e2, fun ys p hy hp => ?_⟩
    have le : Le X.K μ H (μ ++ [p]) (upd H p (.lst ys)) := le_newP hp
    have hy2 : Paired (PrV X.K (upd H p (.lst ys))) ys (srtP ps) := Paired.mapP hy fun x q ⟨t, e, hq⟩ => ⟨t, e, le.tup _ _ hq⟩
    exact q (μ ++ [p]) _ _ le (s.alloc hp ⟨ys, upd_same, prs_rep hy2⟩) (.ref (s.ref p))
theorem bi_abs : CallR X (.builtin "abs") (callV X.K γ W (biD .abs)) := by
  refine callR_imp call_abs fun xs H Q ⟨μ, σ, ρ, S, ds, s, r, q⟩ => ?_
  unfold biD at q
  split at q <;> first | contradiction | (cases q; done) | skip
  obtain ⟨v, rfl, rv⟩ := vs1 r
  cases rv
  exact ⟨_, rfl, q.here s (.int _)⟩
theorem bi_min2 (hc : X.calm = true) : CallR X (.builtin "min") (callV X.K γ W (biD .min2)) := by
  refine callR_imp (call_min2 hc) fun xs H Q ⟨μ, σ, ρ, S, ds, s, r, q⟩ => ?_
  unfold biD at q
  split at q <;> first | contradiction | (cases q; done) | skip
  obtain ⟨v, u, rfl, rv, ru⟩ := vs2 r
  cases rv; cases ru
  exact ⟨_, _, rfl, q.here s (.int _)⟩
theorem bi_max2 (hc : X.calm = true) : CallR X (.builtin "max") (callV X.K γ W (biD .max2)) := by
  refine callR_imp (call_max2 hc) fun xs H Q ⟨μ, σ, ρ, S, ds, s, r, q⟩ => ?_
  unfold biD at q
  split at q <;> first | contradiction | (cases q; done) | skip
  obtain ⟨v, u, rfl, rv, ru⟩ := vs2 r
  cases rv; cases ru
  exact ⟨_, _, rfl, q.here s (.int _)⟩
theorem bi_max3 (hc : X.calm = true) : CallR X (.builtin "max") (callV X.K γ W (biD .max3)) := by
  refine callR_imp (call_max3Nu hc) fun xs H Q ⟨μ, σ, ρ, S, ds, s, r, q⟩ => ?_
  unfold biD at q
  split at q <;> first | contradiction | (cases q; done) | skip
  obtain ⟨v, u, w, rfl, rv, ru, rw'⟩ := vs3 r
  cases rv; cases ru; cases rw'
  rename_i i j k e1 e2
  refine ⟨_, _, _, _, rfl, ?_, q.here s (.int _)⟩
  by_cases h1 : i < j
  · by_cases h2 : j < k <;> simp [nuMax3, nuMax2, nuLt, nuCB, h1, h2]
  · by_cases h2 : i < k <;> simp [nuMax3, nuMax2, nuLt, nuCB, h1, h2]
theorem bi_min3 (hc : X.calm = true) : CallR X (.builtin "min") (callV X.K γ W (biD .min3)) := by
  refine callR_imp (call_min3Nu hc) fun xs H Q ⟨μ, σ, ρ, S, ds, s, r, q⟩ => ?_
  unfold biD at q
  split at q <;> first | contradiction | (cases q; done) | skip
  obtain ⟨v, u, w, rfl, rv, ru, rw'⟩ := vs3 r
  cases rv; cases ru; cases rw'
  rename_i i j k e1 e2
  refine ⟨_, _, _, _, rfl, ?_, q.here s (.int _)⟩
  by_cases h1 : j < i
  · by_cases h2 : k < j <;> simp [nuMin3, nuMin2, nuLt, nuCB, h1, h2]
  · by_cases h2 : k < i <;> simp [nuMin3, nuMin2, nuLt, nuCB, h1, h2]
theorem bi_int : CallR X (.type "int") (callV X.K γ W (biD .int)) := by
  refine callR_imp call_int1 fun xs H Q ⟨μ, σ, ρ, S, ds, s, r, q⟩ => ?_
  unfold biD at q
  split at q <;> first | contradiction | (cases q; done) | skip
  · obtain ⟨v, rfl, rv⟩ := vs1 r
    cases rv
    exact .inl ⟨_, rfl, q.here s (.int _)⟩
  · obtain ⟨v, rfl, rv⟩ := vs1 r
    cases rv
    exact .inr ⟨_, rfl, q.here s (.int _)⟩
theorem bi_str : CallR X (.type "str") (callV X.K γ W (biD .str)) := by
  refine callR_imp call_str_int fun xs H Q ⟨μ, σ, ρ, S, ds, s, r, q⟩ => ?_
  unfold biD at q
  split at q <;> first | contradiction | (cases q; done) | skip
  obtain ⟨v, rfl, rv⟩ := vs1 r
  cases rv
  split at q
  case isTrue hz => exact ⟨_, rfl, hz, q.here s (.str _)⟩
  case isFalse => exact q.elim
theorem bi_tuple : CallR X (.type "tuple") (callV X.K γ W (biD .tuple)) := by
  refine callR_imp call_tuple_of fun xs H Q ⟨μ, σ, ρ, S, ds, s, r, q⟩ => ?_
  unfold biD at q
  split at q <;> first | contradiction | (cases q; done) | skip
  rename_i d
  obtain ⟨v, rfl, rv⟩ := vs1 r
  split at q
  case h_2 => exact q.elim
  case h_1 es e =>
    obtain ⟨p, vs, rfl, hq, r1⟩ := s.seq rv e
    refine ⟨p, vs, rfl, ?_⟩
    rcases hq with hq | hq
    · exact .inl ⟨hq, q.newT s r1⟩
    · exact .inr ⟨hq, q.here s (.tup hq r1)⟩
theorem bi_list : CallR X (.type "list") (callV X.K γ W (biD .list)) := by
  refine callR_imp call_list_of fun xs H Q ⟨μ, σ, ρ, S, ds, s, r, q⟩ => ?_
  unfold biD at q
  split at q <;> first | contradiction | (cases q; done) | skip
  obtain ⟨v, rfl, rv⟩ := vs1 r
  split at q
  case h_2 => exact q.elim
  case h_1 es e =>
    obtain ⟨p, vs, rfl, hq, r1⟩ := s.seq rv e
    exact ⟨p, vs, rfl, hq, q.newL s r1⟩
theorem seq_ref {K : PySem.W.Frag} {μ : Mu} {H : Hp} {σ : L2.St} {ρ : Env} {S : Store} {n : Nat} {es : List D} {v : V} (s : Sim K μ σ H ρ S) (rv : RepV K H μ (.ref n) v) (e : seqD S (.ref n) = some es) : ∃ p vs, v = .ref p ∧ SqL K H p vs ∧ RepVs K H μ es vs := by
  simp only [seqD] at e
  split at e
  · cases e
    obtain ⟨p, vs, h1, h2, h3, _⟩ := s.list rv (by assumption)
    exact ⟨p, vs, h1, .of h2, h3⟩
  · cases e
    obtain ⟨p, vs, h1, h2, h3, _⟩ := s.roL rv (by assumption)
    exact ⟨p, vs, h1, h2.sq, h3⟩
  · cases e
theorem bi_any (hc : X.calm = true) : CallR X (.builtin "any") (callV X.K γ W (biD .any)) := by
  refine callR_imp (cr_any hc) fun xs H Q ⟨μ, σ, ρ, S, ds, s, r, q⟩ => ?_
  unfold biD at q
  split at q <;> first | contradiction | (cases q; done) | skip
  obtain ⟨v, rfl, rv⟩ := vs1 r
  split at q
  case h_2 => exact q.elim
  case h_1 bs e =>
    simp only [Option.bind_eq_some_iff] at e
    obtain ⟨es, e1, e2⟩ := e
    obtain ⟨p, vs, rfl, hq, r1⟩ := seq_ref s rv e1
    exact ⟨p, bs, rfl, by rw [← bls_of r1 e2]; exact hq, q.here s (.bl _)⟩
theorem bi_all (hc : X.calm = true) : CallR X (.builtin "all") (callV X.K γ W (biD .all)) := by
  refine callR_imp (cr_all hc) fun xs H Q ⟨μ, σ, ρ, S, ds, s, r, q⟩ => ?_
  unfold biD at q
  split at q <;> first | contradiction | (cases q; done) | skip
  obtain ⟨v, rfl, rv⟩ := vs1 r
  split at q
  case h_2 => exact q.elim
  case h_1 bs e =>
    simp only [Option.bind_eq_some_iff] at e
    obtain ⟨es, e1, e2⟩ := e
    obtain ⟨p, vs, rfl, hq, r1⟩ := seq_ref s rv e1
    exact ⟨p, bs, rfl, by rw [← bls_of r1 e2]; exact hq, q.here s (.bl _)⟩
theorem bi_sum (hc : X.calm = true) : CallR X (.builtin "sum") (callV X.K γ W (biD .sum)) := by
  refine callR_imp (cr_sum hc) fun xs H Q ⟨μ, σ, ρ, S, ds, s, r, q⟩ => ?_
  unfold biD at q
  split at q <;> first | contradiction | (cases q; done) | skip
  obtain ⟨v, rfl, rv⟩ := vs1 r
  split at q
  case h_2 => exact q.elim
  case h_1 bs e =>
    simp only [Option.bind_eq_some_iff] at e
    obtain ⟨es, e1, e2⟩ := e
    obtain ⟨p, vs, rfl, hq, r1⟩ := seq_ref s rv e1
    exact ⟨p, bs, rfl, by rw [← ints_of r1 e2]; exact hq, q.here s (.int _)⟩
theorem b_abs : bootBuiltins "abs" = some (.builtin "abs") := by decide +kernel
/-- f(..), f a built-in -/
theorem pe_bi (G : Good X Γ γ W P) (f : Bi) {p pos : Pos} {e : Expr} {es : List Expr} {t : TA} (hc : X.calm = true) (hb : blX Γ (biName f) = true) (hf : 0 < biArgs f) (ha : PA X (e :: es) t)
    (s1 : starEach (e :: es) X.env = (false, eval e X.env) :: starEach es X.env) (s2 : (backTo pos (starEach es X.env)).any (·.1) = false) :
    PE X (.Call (.Name (biName f) p) (e :: es) [] pos) (tCB (callV X.K γ W (biD f)) t) := by
  obtain ⟨g1, g2⟩ := bl_of G hb
  cases f <;> first | (exfalso; revert hf; decide) | skip
  · exact pe_callB bi_len g1 g2 PySem.boot_len ha (by decide) (by decide) s1 s2
  · exact pe_callB bi_abs g1 g2 b_abs ha (by decide) (by decide) s1 s2
  · exact pe_callB (bi_min2 hc) g1 g2 PyProof.Rows.boot_min ha (by decide) (by decide) s1 s2
  · exact pe_callB (bi_max2 hc) g1 g2 PyProof.Rows.boot_max ha (by decide) (by decide) s1 s2
  · exact pe_callB (bi_min3 hc) g1 g2 PyProof.Rows.boot_min ha (by decide) (by decide) s1 s2
  · exact pe_callB (bi_max3 hc) g1 g2 PyProof.Rows.boot_max ha (by decide) (by decide) s1 s2
  · exact pe_callTy bi_int g1 g2 (by decide +kernel) ha (by decide) (by decide) s1 s2
  · exact pe_callTy bi_str g1 g2 (by decide +kernel) ha (by decide) (by decide) s1 s2
  · exact pe_callTy bi_tuple g1 g2 (by decide +kernel) ha (by decide) (by decide) s1 s2
  · exact pe_callTy bi_list g1 g2 (by decide +kernel) ha (by decide) (by decide) s1 s2
  · exact pe_callB (bi_any hc) g1 g2 (by decide +kernel) ha (by decide) (by decide) s1 s2
  · exact pe_callB (bi_all hc) g1 g2 (by decide +kernel) ha (by decide) (by decide) s1 s2
  · exact pe_callB (bi_sum hc) g1 g2 (by decide +kernel) ha (by decide) (by decide) s1 s2
  · exact pe_callB (bi_sorted hc) g1 g2 (by decide +kernel) ha (by decide) (by decide) s1 s2
theorem snd_bi (G : Good X Γ γ W P) (f : Bi) (ha : Snd X γ W (den P a) (chk a Γ)) : Snd X γ W (den P (.bi f a)) (chk (.bi f a) Γ) := by
  refine snd_ofV fun x h => ?_
  split at h
  case h_2 => cases h
  case h_1 x p es pos =>
    obtain ⟨g1, h5⟩ := band h
    obtain ⟨g2, h4⟩ := band g1
    obtain ⟨g3, h3⟩ := band g2
    obtain ⟨h1, h2⟩ := band g3
    clear g1 g2 g3 h
    refine ⟨?_, fun _ => rfl, fun _ _ _ z => nomatch z⟩
    have e2 := of_decide_eq_true h2
    subst e2
    have hl := of_decide_eq_true h4
    cases es with
    | nil =>
      have : evs P a = fun ρ S => .ok [] S := by
        cases a <;> first | rfl | (exfalso; revert h5; simp [chk, Ck.ofE, Ck.no]; done)
      refine ⟨fun pins s σ H Q I ⟨μ, ρ, S, s1, q⟩ => ?_⟩
      change PostR X.K γ W (relV X.K) μ H σ ρ ((evs P a ρ S).bind fun ds S1 => biD f ds S1) Q at q
      rw [this] at q
      exfalso
      change PostR X.K γ W (relV X.K) μ H σ ρ (biD f [] S) Q at q
      have e : biD f [] S = .bad := by cases f <;> rfl
      rw [e] at q
      exact q
    | cons e es =>
      obtain ⟨s1, s2⟩ := star_a a e es h5 X.env
      refine pe_imp (pe_bi (γ := γ) (W := W) G f (G.calm h1) h3 (by rw [← hl]; exact Nat.succ_pos _) (ha.a _ h5) s1 (s2 pos)) fun σ H Q ⟨μ, ρ, S, s, q⟩ => ?_
      exact ⟨μ, ρ, S, s, (PostR.bind q).imp fun xs H1 ⟨μ1, S1, ds, le1, s1, r1, q1⟩ => ⟨μ1, σ, ρ, S1, ds, s1, r1, q1⟩⟩
/-! ### methods -/
theorem base_of : ∀ (a : E) o, (chk a Γ).e o = true → (∀ f as ks p, o ≠ .Call f as ks p) → ∀ name env, attributeBase o name env (eval o env) = eval o env := by
  intro a o h hn name env
  cases o <;> first | rfl | exact absurd rfl (hn _ _ _ _)
theorem me_append : MtR X "list.append" (methV X.K γ W (meD .append)) := by
  refine mtR_imp mt_append fun x xs H Q ⟨μ, σ, ρ, S, d, ds, s, r, rs, q⟩ => ?_
  unfold meD at q
  split at q <;> first | contradiction | (cases q; done) | skip
  obtain ⟨v, rfl, rv⟩ := vs1 rs
  split at q
  case h_2 => exact q.elim
  case h_1 es e =>
    split at q
    case isFalse => exact q.elim
    case isTrue hz =>
      obtain ⟨p, vs, rfl, h1, r1, hm⟩ := s.list r e
      exact ⟨p, vs, v, rfl, rfl, h1, by rw [r1.length, ← linesz_eq]; exact hz, q.later (le_upd h1) (s.write e hm h1 (r1.append (.cons rv .nil))) .non⟩
theorem findIdx_of {p : PyData → Bool} : ∀ {ds : List PyData} {j : Nat}, ds.findIdx? p = some j → ∃ z, ds[j]? = some z ∧ p z = true ∧ ∀ (m : Nat) z', m < j → ds[m]? = some z' → p z' = false := fun {ds j} h => by
  obtain ⟨hj, h1, h2⟩ := List.findIdx?_eq_some_iff_getElem.mp h
  refine ⟨ds[j], List.getElem?_eq_getElem hj, h1, fun m z' hm hz => ?_⟩
  obtain ⟨hm2, e⟩ := List.getElem?_eq_some_iff.mp hz
  rw [← e]
  simpa using h2 m hm
theorem me_index (hu : X.A.units + 66 < cLine) : MtR X "list.index" (methV X.K γ W (meD .index)) := by
  refine mtR_imp (mt_indexD (by omega)) fun x xs H Q ⟨μ, σ, ρ, S, d, ds, s, r, rs, q⟩ => ?_
  unfold meD at q
  split at q <;> first | contradiction | (cases q; done) | skip
  obtain ⟨v, rfl, rv⟩ := vs1 rs
  split at q
  case h_2 => exact q.elim
  case h_1 es e =>
    split at q
    case h_2 => exact q.elim
    case h_1 j hj =>
      unfold indexN at hj
      split at hj
      case h_2 => cases hj
      case h_1 p ps e3 e4 =>
        split at hj
        case isFalse => cases hj
        case isTrue hs =>
          rw [Bool.and_eq_true] at hs
          obtain ⟨a, vs, rfl, h1, r1, hm⟩ := s.list r e
          obtain ⟨z, hz, hp, hno⟩ := findIdx_of hj
          exact ⟨a, v, p, ps, j, z, rfl, rfl, .lst (.of h1) (dps_of (fun n a p => dp_cell s 6 n a p) es vs ps r1 e4), dp_sim s rv e3, hs.2, hs.1, hz, hp, hno, q.here s (.int _)⟩
theorem me_insert : MtR X "list.insert" (methV X.K γ W (meD .insert)) := by
  refine mtR_imp mt_insert fun x xs H Q ⟨μ, σ, ρ, S, d, ds, s, r, rs, q⟩ => ?_
  unfold meD at q
  split at q <;> first | contradiction | (cases q; done) | skip
  obtain ⟨v, u, rfl, rv, ru⟩ := vs2 rs
  cases rv
  split at q
  case h_2 => exact q.elim
  case h_1 es e =>
    split at q
    case isFalse => exact q.elim
    case isTrue hz =>
      obtain ⟨p, vs, rfl, h1, r1, hm⟩ := s.list r e
      exact ⟨p, vs, _, u, rfl, rfl, h1, by rw [r1.length, ← linesz_eq]; exact hz.1, hz.2.1, by have := hz.2.2; omega, q.later (le_upd h1) (s.write e hm h1 (((r1.take _).append (.cons ru .nil)).append (r1.drop _))) .non⟩
theorem got_of {kvs : List (List Int × D)} {xs : List (List Int × Addr × Value)} {K : PySem.W.Frag} {μ : Mu} {H : Hp} (r : KVX K H μ kvs xs) (k : List Int) {d : D} {v : V} (rv : RepV K H μ d v) {q : V → Prop} (h : ∀ w, RepV K H μ ((dGet kvs k).getD d) w → q w) : gotX xs k v q := by
  have g := r.get k
  cases e : dGet kvs k with
  | none => rw [e] at g h; exact .inl ⟨g, h _ rv⟩
  | some d' => rw [e] at g h; obtain ⟨p, w, g1, g2, g3⟩ := g; exact .inr ⟨p, w, g1, g3, h _ g2⟩
theorem me_get1 (hu : X.A.units + 1 < cLine) : MtR X "dict.get" (methV X.K γ W (meD .get1)) := by
  refine mtR_imp (mt_getX hu) fun x xs H Q ⟨μ, σ, ρ, S, d, ds, s, r, rs, q⟩ => ?_
  unfold meD at q
  split at q <;> first | contradiction | (cases q; done) | skip
  obtain ⟨v, rfl, rv⟩ := vs1 rs
  split at q
  case h_2 => exact q.elim
  case h_1 kvs e =>
    split at q
    case h_2 => exact q.elim
    case h_1 k hk =>
      obtain ⟨a, xs, rfl, ea, ra, _⟩ := s.dct r e
      obtain ⟨b, rfl, hb⟩ := key_rep rv hk
      exact ⟨a, b, xs, k, rfl, ea, ra.kx, hb, .inl ⟨rfl, got_of ra k .non fun w rw' => q.here s rw'⟩⟩
theorem me_get2 (hu : X.A.units + 1 < cLine) : MtR X "dict.get" (methV X.K γ W (meD .get2)) := by
  refine mtR_imp (mt_getX hu) fun x xs H Q ⟨μ, σ, ρ, S, d, ds, s, r, rs, q⟩ => ?_
  unfold meD at q
  split at q <;> first | contradiction | (cases q; done) | skip
  obtain ⟨v, u, rfl, rv, ru⟩ := vs2 rs
  split at q
  case h_2 => exact q.elim
  case h_1 kvs e =>
    split at q
    case h_2 => exact q.elim
    case h_1 k hk =>
      obtain ⟨a, xs, rfl, ea, ra, _⟩ := s.dct r e
      obtain ⟨b, rfl, hb⟩ := key_rep rv hk
      exact ⟨a, b, xs, k, rfl, ea, ra.kx, hb, .inr ⟨u, rfl, got_of ra k ru fun w rw' => q.here s rw'⟩⟩
theorem me_popd (hu : X.A.units + 1 < cLine) : MtR X "dict.pop" (methV X.K γ W (meD .pop)) := by
  refine mtR_imp (mt_popX hu) fun x xs H Q ⟨μ, σ, ρ, S, d, ds, s, r, rs, q⟩ => ?_
  unfold meD at q
  split at q <;> first | contradiction | (cases q; done) | skip
  obtain ⟨v, rfl, rv⟩ := vs1 rs
  split at q
  case h_2 => exact q.elim
  case h_1 kvs e =>
    split at q
    case h_2 => exact q.elim
    case h_1 k hk =>
      split at q
      case h_2 => exact q.elim
      case h_1 dd hg =>
        obtain ⟨a, xs, rfl, ea, ra, hm⟩ := s.dct r e
        obtain ⟨b, rfl, hb⟩ := key_rep rv hk
        have g := ra.get k
        rw [hg] at g
        obtain ⟨p, w, g1, g2, g3⟩ := g
        have le : Le X.K μ H μ (upd H a (DX a (withoutH xs k))) := le_updC ea nt_dx
        exact ⟨a, b, xs, k, p, w, rfl, rfl, ea, ra.kx, hb, g1, g3, q.later le ⟨s.e.mono le, s.s.writeC e hm ea nt_dx rfl rfl ⟨_, upd_same, (ra.del k).mono le⟩⟩ (g2.mono le)⟩
/-- xs.pop() -/
theorem snd_pop0 (hb : Snd X γ W (den P b) (chk b Γ)) : Snd X γ W (den P (.pop0 b)) (chk (.pop0 b) Γ) := by
  refine snd_ofV fun x h => ?_
  split at h
  case h_2 => cases h
  case h_1 v x apos pos =>
    obtain ⟨h, h4⟩ := band h
    obtain ⟨h, h3⟩ := band h
    obtain ⟨h1, h2⟩ := band h
    refine ⟨?_, fun _ => rfl, fun _ _ _ z => nomatch z⟩
    have hp : ∀ f as ks p, v ≠ .Call f as ks p := fun f as ks p e => by subst e; simp [plainObj] at h3
    obtain rfl := of_decide_eq_true h1
    refine pe_imp (pe_bm0 PySem.F.plainAttrs_list PySem.F.slot_list_pop PySem.F.type_list_pop mt_pop (hb.e _ h4) (base_of b v h4 hp _ _) h2) fun σ H Q ⟨μ, ρ, S, s, q⟩ => ?_
    refine ⟨μ, ρ, S, s, (PostR.bind q).imp fun x H1 ⟨μ1, S1, d, le1, s1, r1, q1⟩ => ?_⟩
    unfold pop0R at q1
    split at q1
    case h_2 => exact q1.elim
    case h_1 n =>
      split at q1
      case h_2 => exact q1.elim
      case h_1 es e =>
        split at q1
        case h_2 => exact q1.elim
        case h_1 dd hd =>
          obtain ⟨a, vs, rfl, h6, r3, hm⟩ := s1.list r1 e
          obtain ⟨w, g1, g2⟩ := r3.get hd
          refine ⟨.inl ⟨rfl, vs, .of h6⟩, a, vs, w, rfl, rfl, h6, by rw [r3.length]; exact g1, ?_⟩
          have rd : RepVs X.K H1 μ1 es.dropLast vs.dropLast := by
            rw [List.dropLast_eq_take, List.dropLast_eq_take, r3.length]
            exact r3.take _
          exact q1.later (le_upd h6) (s1.write e hm h6 rd) (g2.mono (le_upd h6))
theorem few_of : ∀ (a : E) (es : List Expr), (chk a Γ).a es = true → es.length < 21 → ∀ (env : PySem.Env) (pos : Pos), (backTo pos (starEach es env)).all (fun x => !x.1) = true
  | .nil, es, h, _, env, pos => by
    cases es with
    | nil => rfl
    | cons e es => cases h
  | .cons a as, es, h, hl, env, pos => by
    cases es with
    | nil => cases h
    | cons e es =>
      obtain ⟨h1, h2⟩ := band h
      obtain ⟨s1, _⟩ := star_a (.cons a as) e es h env
      rw [s1]
      have ih := few_of as es h2 (by simp at hl; omega) env pos
      simp only [backTo, List.map_cons, List.all_cons] at ih ⊢
      simpa using ih
  | .var _, _, h, _, _, _ => nomatch h
  | .non, _, h, _, _, _ => nomatch h
  | .bl _, _, h, _, _, _ => nomatch h
  | .int _, _, h, _, _, _ => nomatch h
  | .str _, _, h, _, _, _ => nomatch h
  | .glb _ _, _, h, _, _, _ => nomatch h
  | .bin _ _ _, _, h, _, _, _ => nomatch h
  | .neg _, _, h, _, _, _ => nomatch h
  | .cmp _ _ _, _, h, _, _, _ => nomatch h
  | .chain _ _ _ _ _, _, h, _, _, _ => nomatch h
  | .not _, _, h, _, _, _ => nomatch h
  | .and _ _, _, h, _, _, _ => nomatch h
  | .or _ _, _, h, _, _, _ => nomatch h
  | .ite _ _ _, _, h, _, _, _ => nomatch h
  | .tup _, _, h, _, _, _ => nomatch h
  | .lst _, _, h, _, _, _ => nomatch h
  | .ix _ _, _, h, _, _, _ => nomatch h
  | .slc _ _ _, _, h, _, _, _ => nomatch h
  | .call _ _, _, h, _, _, _ => nomatch h
  | .bi _ _, _, h, _, _, _ => nomatch h
  | .me _ _ _, _, h, _, _, _ => nomatch h
  | .isi _ _ _, _, h, _, _, _ => nomatch h
  | .isx _ _ _, _, h, _, _, _ => nomatch h
  | .rng _, _, h, _, _, _ => nomatch h
  | .enm _, _, h, _, _, _ => nomatch h
  | .zp _, _, h, _, _, _ => nomatch h
  | .dd0, _, h, _, _, _ => nomatch h
  | .kdd _ _, _, h, _, _, _ => nomatch h
  | .pop0 _, _, h, _, _, _ => nomatch h
  | .lk _ _, _, h, _, _, _ => nomatch h
  | .dd1 _ _, _, h, _, _, _ => nomatch h
  | .dd2 _ _ _ _, _, h, _, _, _ => nomatch h
  | .bln _, _, h, _, _, _ => nomatch h
  | .gix _ _ _, _, h, _, _, _ => nomatch h
  | .fjs _, _, h, _, _, _ => nomatch h
  | .fmt _, _, h, _, _, _ => nomatch h
  | .sm _ _ _, _, h, _, _, _ => nomatch h
  | .sm0 _ _, _, h, _, _, _ => nomatch h
  | .gdx _ _ _, _, h, _, _, _ => nomatch h
  | .gdin _ _ _ _, _, h, _, _, _ => nomatch h
  | .lrv _, _, h, _, _, _ => nomatch h
  | .itm _, _, h, _, _, _ => nomatch h
  | .lc _ _ _ _ _, _, h, _, _, _ => nomatch h
  | .fld _ _ _, _, h, _, _, _ => nomatch h
  | .mth _ _ _ _ _, _, h, _, _, _ => nomatch h
  | .lc2 _ _ _ _ _ _ _, _, h, _, _, _ => nomatch h
theorem snd_me (G : Good X Γ γ W P) (m : Me) (hb : Snd X γ W (den P b) (chk b Γ)) (ha : Snd X γ W (den P a) (chk a Γ)) : Snd X γ W (den P (.me m b a)) (chk (.me m b a) Γ) := by
  refine snd_ofV fun x h => ?_
  split at h
  case h_2 => cases h
  case h_1 v x apos e es pos =>
    obtain ⟨h1, h6⟩ := band h
    obtain ⟨h1, h5⟩ := band h1
    obtain ⟨h1, h4⟩ := band h1
    obtain ⟨h1, h3⟩ := band h1
    obtain ⟨h1, h2⟩ := band h1
    refine ⟨?_, fun _ => rfl, fun _ _ _ z => nomatch z⟩
    obtain ⟨s1, s2⟩ := star_a a e es h5 X.env
    have hn := of_decide_eq_true h6
    have hfew : ((backTo pos (starEach (e :: es) X.env)).all (fun x => !x.1) && (backToKw pos (keywordEach [] X.env)).all (fun x => x.1.isSome)
        && decide ((e :: es).length + ([] : List Keyword).length + (if ([] : List Keyword).isEmpty then 0 else 1) < 30)) = true := by
      rw [few_of a (e :: es) h5 (by simp; omega) X.env pos]
      simp [keywordEach, backToKw]
      omega
    have hp : ∀ f as ks p, v ≠ .Call f as ks p := fun f as ks p e => by subst e; simp [plainObj] at h3
    have go : ∀ {μ1 : Mu} {H1 : Hp} {σ : L2.St} {ρ : Ng.Env} {Q : VK} (r : R D) (b : Bool), PostR X.K γ W (relV X.K) μ1 H1 σ ρ (bif b then r else .bad) Q → b = true ∧ PostR X.K γ W (relV X.K) μ1 H1 σ ρ r Q := fun r b z => by
      cases b with
      | true => exact ⟨rfl, z⟩
      | false => exact z.elim
    have key : (m = .append ∨ m = .index ∨ m = .insert) → (∀ σ H Q, tE X.K γ W (den P (.me m b a)).v σ H Q → tBM X.K "list" (methV X.K γ W (meD m)) (tE X.K γ W (den P b).v) (tA X.K γ W (den P a).a) σ H Q) := fun hm σ H Q ⟨μ, ρ, S, s, q⟩ => by
      refine ⟨μ, ρ, S, s, (PostR.bind q).imp fun x H1 ⟨μ1, S1, d, le1, s1, r1, q1⟩ => ?_⟩
      obtain ⟨ok, q2⟩ := go _ _ q1
      refine ⟨?_, μ1, ρ, S1, s1, (PostR.bind q2).imp fun xs H2 ⟨μ2, S2, ds, le2, s2, r2, q3⟩ => ⟨μ2, σ, ρ, S2, d, ds, s2, RepV.mono le2 r1, r2, q3⟩⟩
      have hx : ∃ n es, d = .ref n ∧ S1[n]? = some (.lst es) := by
        rcases hm with rfl | rfl | rfl <;> (cases d <;> first | (cases ok; done) | (simp only [meOk] at ok; split at ok <;> first | (cases ok; done) | exact ⟨_, _, rfl, by assumption⟩))
      obtain ⟨n, es', rfl, e⟩ := hx
      obtain ⟨p, vs, rfl, h6, r3, hm⟩ := s1.list r1 e
      exact .inl ⟨rfl, vs, .of h6⟩
    have keyX : (m = .get1 ∨ m = .get2 ∨ m = .pop) → (∀ σ H Q, tE X.K γ W (den P (.me m b a)).v σ H Q → tBMX (methV X.K γ W (meD m)) (tE X.K γ W (den P b).v) (tA X.K γ W (den P a).a) σ H Q) := fun hm σ H Q ⟨μ, ρ, S, s, q⟩ => by
      refine ⟨μ, ρ, S, s, (PostR.bind q).imp fun x H1 ⟨μ1, S1, d, le1, s1, r1, q1⟩ => ?_⟩
      obtain ⟨ok, q2⟩ := go _ _ q1
      refine ⟨?_, μ1, ρ, S1, s1, (PostR.bind q2).imp fun xs H2 ⟨μ2, S2, ds, le2, s2, r2, q3⟩ => ⟨μ2, σ, ρ, S2, d, ds, s2, RepV.mono le2 r1, r2, q3⟩⟩
      have hx : ∃ n es, d = .ref n ∧ S1[n]? = some (.dct es) := by
        rcases hm with rfl | rfl | rfl <;> (cases d <;> first | (cases ok; done) | (simp only [meOk] at ok; split at ok <;> first | (cases ok; done) | exact ⟨_, _, rfl, by assumption⟩))
      obtain ⟨n, es', rfl, e⟩ := hx
      obtain ⟨p, xs, rfl, h6, r3, hm⟩ := s1.dct r1 e
      exact ⟨p, xs, rfl, h6⟩
    cases m <;> first | (cases h1; done) | skip
    · have e1 := of_decide_eq_true h1
      subst e1
      exact pe_imp (pe_bm PySem.F.plainAttrs_list PySem.F.slot_list_append PySem.F.type_list_append (me_append (γ := γ) (W := W)) (hb.e _ h4) (ha.a _ h5) (base_of b v h4 hp _ _) hfew h2 s1 (s2 pos)) (key (.inl rfl))
    · have e1 := of_decide_eq_true h1
      subst e1
      exact pe_imp (pe_bm PySem.F.plainAttrs_list PySem.F.slot_list_index PySem.F.type_list_index (me_index (γ := γ) (W := W) G.un) (hb.e _ h4) (ha.a _ h5) (base_of b v h4 hp _ _) hfew h2 s1 (s2 pos)) (key (.inr (.inl rfl)))
    · have e1 := of_decide_eq_true h1
      subst e1
      exact pe_imp (pe_bmX PySem.F.slot_dict_pop PySem.F.type_dict_pop (me_popd (γ := γ) (W := W) (by have := G.un; omega)) (hb.e _ h4) (ha.a _ h5) (base_of b v h4 hp _ _) hfew h2 s1 (s2 pos)) (keyX (.inr (.inr rfl)))
    · have e1 := of_decide_eq_true h1
      subst e1
      exact pe_imp (pe_bmX PySem.F.slot_dict_get PySem.F.type_dict_get (me_get1 (γ := γ) (W := W) (by have := G.un; omega)) (hb.e _ h4) (ha.a _ h5) (base_of b v h4 hp _ _) hfew h2 s1 (s2 pos)) (keyX (.inl rfl))
    · have e1 := of_decide_eq_true h1
      subst e1
      exact pe_imp (pe_bmX PySem.F.slot_dict_get PySem.F.type_dict_get (me_get2 (γ := γ) (W := W) (by have := G.un; omega)) (hb.e _ h4) (ha.a _ h5) (base_of b v h4 hp _ _) hfew h2 s1 (s2 pos)) (keyX (.inr (.inl rfl)))
    · have e1 := of_decide_eq_true h1
      subst e1
      exact pe_imp (pe_bm PySem.F.plainAttrs_list PySem.F.slot_list_insert PySem.F.type_list_insert (me_insert (γ := γ) (W := W)) (hb.e _ h4) (ha.a _ h5) (base_of b v h4 hp _ _) hfew h2 s1 (s2 pos)) (key (.inr (.inr rfl)))
/-! ### methods of texts -/
theorem strs_rep {K : PySem.W.Frag} {H : Hp} {μ : Mu} : ∀ {ds : List D} {vs : List V} {ys : List Str}, RepVs K H μ ds vs → strsD ds = some ys → vs = ys.map V.str
  | [], _, _, .nil, e => by cases e; rfl
  | d :: ds, _, ys, .cons r1 r2, e => by
    cases d <;> first | (cases e; done) | skip
    simp only [strsD] at e
    cases e2 : strsD ds with
    | none => rw [e2] at e; cases e
    | some zs =>
      rw [e2] at e
      cases e
      cases r1
      rw [strs_rep r2 e2]; rfl
theorem strs_rep' {K : PySem.W.Frag} {H : Hp} {μ : Mu} : ∀ ys : List Str, RepVs K H μ (ys.map D.str) (ys.map V.str)
  | [] => .nil
  | y :: ys => .cons (.str y) (strs_rep' ys)
theorem snd_sm (m : SM) (hb : Snd X γ W (den P b) (chk b Γ)) (ha : Snd X γ W (den P a) (chk a Γ)) : Snd X γ W (den P (.sm m b a)) (chk (.sm m b a) Γ) := by
  refine snd_ofV fun x h => ?_
  split at h
  case h_2 => cases h
  case h_1 v x apos e pos =>
    obtain ⟨h, h5⟩ := band h
    obtain ⟨h, h4⟩ := band h
    obtain ⟨h, h3⟩ := band h
    obtain ⟨h1, h2⟩ := band h
    refine ⟨?_, fun _ => rfl, fun _ _ _ z => nomatch z⟩
    have hp : ∀ f as ks p, v ≠ .Call f as ks p := fun f as ks p e => by subst e; simp [plainObj] at h3
    have hs : starEach [e] X.env = [(false, eval e X.env)] := star_of ha e h5 []
    have key : ∀ {r : V → List V → Hp → VK → Prop}, (∀ σ H Q μ ρ S d y x v, Sim X.K μ σ H ρ S → RepV X.K H μ d x → RepV X.K H μ y v → isS d = true → PostR X.K γ W (relV X.K) μ H σ ρ (smR m d y S) Q → r x [v] H Q) →
        ∀ σ H Q, tE X.K γ W (den P (.sm m b a)).v σ H Q → tM1 r (tE X.K γ W (den P b).v) (tE X.K γ W (den P a).v) σ H Q := fun {r} hr σ H Q ⟨μ, ρ, S, s, q⟩ => by
      refine ⟨μ, ρ, S, s, (PostR.bind q).imp fun x H1 ⟨μ1, S1, d, le1, s1, r1, q1⟩ => ?_⟩
      have go : ∀ b : Bool, PostR X.K γ W (relV X.K) μ1 H1 σ ρ (bif b then (ev P a ρ S1).bind fun y S2 => smR m d y S2 else .bad) Q → b = true ∧ PostR X.K γ W (relV X.K) μ1 H1 σ ρ ((ev P a ρ S1).bind fun y S2 => smR m d y S2) Q := fun b z => by
        cases b with
        | true => exact ⟨rfl, z⟩
        | false => exact z.elim
      obtain ⟨ok, q2⟩ := go _ q1
      refine ⟨?_, μ1, ρ, S1, s1, (PostR.bind q2).imp fun y H2 ⟨μ2, S2, d2, le2, s2, r2, q3⟩ => hr σ H2 Q μ2 ρ S2 d d2 x y s2 (r1.mono le2) r2 ok q3⟩
      cases d <;> first | (cases ok; done) | skip
      cases r1
      exact ⟨_, rfl⟩
    cases m with
    | split =>
      obtain rfl := of_decide_eq_true h1
      refine pe_imp (pe_m1 F.slot_str_split F.type_str_split mt_split (hb.e _ h4) (ha.e _ h5) hs (base_of b v h4 hp _ _) h2) (key fun σ H Q μ ρ S d y x v s rx rv ok q => ?_)
      cases d <;> first | (cases ok; done) | skip
      cases y <;> first | (exact q.elim) | skip
      cases rx; cases rv
      simp only [smR] at q
      split at q
      case isFalse => exact q.elim
      case isTrue hz => exact ⟨_, _, rfl, rfl, hz.1, by rw [← linesz_eq]; exact hz.2, q.newL s (strs_rep' _)⟩
    | startswith =>
      obtain rfl := of_decide_eq_true h1
      refine pe_imp (pe_m1 F.slot_str_startswith F.type_str_startswith mt_startswith (hb.e _ h4) (ha.e _ h5) hs (base_of b v h4 hp _ _) h2) (key fun σ H Q μ ρ S d y x v s rx rv ok q => ?_)
      cases d <;> first | (cases ok; done) | skip
      cases y <;> first | (exact q.elim) | skip
      cases rx; cases rv
      exact ⟨_, _, rfl, rfl, q.here s (.bl _)⟩
    | join =>
      obtain rfl := of_decide_eq_true h1
      refine pe_imp (pe_m1 F.slot_str_join F.type_str_join mt_join (hb.e _ h4) (ha.e _ h5) hs (base_of b v h4 hp _ _) h2) (key fun σ H Q μ ρ S d y x v s rx rv ok q => ?_)
      cases d <;> first | (cases ok; done) | skip
      cases y <;> first | (exact q.elim) | skip
      cases rx
      simp only [smR] at q
      split at q
      case h_2 => exact q.elim
      case h_1 ys ey =>
        split at q
        case isFalse => exact q.elim
        case isTrue hz =>
          obtain ⟨ds, e1, e2⟩ := Option.bind_eq_some_iff.mp ey
          obtain ⟨p, vs, rfl, hq, rv2⟩ := s.seq rv e1
          have e3 := strs_rep rv2 e2
          subst e3
          exact ⟨_, p, ys, rfl, rfl, hq, hz, q.here s (.str _)⟩
    | upper => cases h1
theorem snd_sm0 (m : SM) (hb : Snd X γ W (den P b) (chk b Γ)) : Snd X γ W (den P (.sm0 m b)) (chk (.sm0 m b) Γ) := by
  refine snd_ofV fun x h => ?_
  split at h
  case h_2 => cases h
  case h_1 v x apos pos =>
    obtain ⟨h, h4⟩ := band h
    obtain ⟨h, h3⟩ := band h
    obtain ⟨h1, h2⟩ := band h
    refine ⟨?_, fun _ => rfl, fun _ _ _ z => nomatch z⟩
    have hp : ∀ f as ks p, v ≠ .Call f as ks p := fun f as ks p e => by subst e; simp [plainObj] at h3
    cases m <;> first | (cases h1; done) | skip
    obtain rfl := of_decide_eq_true h1
    refine pe_imp (pe_m0 F.slot_str_upper F.type_str_upper mt_upper (hb.e _ h4) (base_of b v h4 hp _ _) h2) fun σ H Q ⟨μ, ρ, S, s, q⟩ => ?_
    refine ⟨μ, ρ, S, s, (PostR.bind q).imp fun x H1 ⟨μ1, S1, d, le1, s1, r1, q1⟩ => ?_⟩
    unfold sm0R at q1
    split at q1
    case h_2 => exact q1.elim
    case h_1 =>
      cases r1
      split at q1
      case isFalse => exact q1.elim
      case isTrue hz => exact ⟨⟨_, rfl⟩, _, rfl, rfl, hz, q1.here s1 (.str _)⟩
/-! ### attributes, methods -/
theorem plain_obj {v : Expr} (h : plainObj v = true) : ∀ f as ks p, v ≠ .Call f as ks p := fun f as ks p e => by subst e; simp [plainObj] at h
theorem snd_fld (G : Good X Γ γ W P) (c f : Str) (ha : Snd X γ W (den P a) (chk a Γ)) : Snd X γ W (den P (.fld c f a)) (chk (.fld c f a) Γ) := by
  refine snd_ofV fun x h => ?_
  split at h
  case h_2 => cases h
  case h_1 v x pos =>
    obtain ⟨h1, h4⟩ := band h
    obtain ⟨h1, h3⟩ := band h1
    obtain ⟨h1, h2⟩ := band h1
    have e1 := of_decide_eq_true h1
    subst e1
    obtain ⟨C, hc, cl, na⟩ := G.atr c x h2
    refine ⟨?_, fun _ => rfl, fun _ _ _ z => nomatch z⟩
    refine pe_imp (pe_fld (ha.e _ h4) (base_of a v h4 (plain_obj h3) _ _)) fun σ H Q ⟨μ, ρ, S, s, q⟩ => ?_
    refine ⟨μ, ρ, S, s, (PostR.bind q).imp fun y H1 ⟨μ1, S1, d, le1, s1, r1, q1⟩ => ?_⟩
    unfold fldR at q1
    split at q1
    case h_2 => exact q1.elim
    case h_1 fs hi =>
      split at q1
      case h_2 => exact q1.elim
      case h_1 d2 hl =>
        obtain ⟨n, p, C2, dx, gs, rfl, rfl, hS, hH, hc2, e3, r3, hm⟩ := s1.inst r1 hi
        have : C2 = C := by
          have := hc2.symm.trans hc
          cases this; rfl
        subst this
        obtain ⟨u, hu, ru⟩ := (lookup_rep x e3 r3).1 d2 hl
        exact ⟨p, C2, dx, gs, u, rfl, hH, cl, na, hu, q1.here s1 ru⟩
def tMethSD (C : Addr) (m : Str) (sp : Sp) (E : L2.St → XK) (ta : TE) (t : TA) : TE := fun σ H Q => ta σ H fun x H1 => ∃ a dx fs, x = .ref a ∧ H1 a = some (.ins C dx fs) ∧ fs.lookup m = none ∧ t σ H1 fun vs H2 => sp (x :: vs) H2 Q (E σ)
theorem meth_tree {o : Expr} {m : Str} {apos pos : Pos} {es : List Expr} {env : PySem.Env} (hb : attributeBase o m env (eval o env) = eval o env) (hf : methodCallForm (es.length + ([] : List Keyword).length) (backTo pos (starEach es env)) (backToKw pos (keywordEach [] env)) = true) (hl : (apos.endLine == pos.line) = true) :
    eval (.Call (.Attribute o m apos) es [] pos) env = (do
      let ov ← eval o env
      standAt apos.atName
      let (f, first) ← holding [ov] (getMethod ov m (do return (← importBound o env).getD true))
      callWith pos f first (backTo pos (starEach es env)) (backToKw pos (keywordEach [] env))) := by
  refine mcall_of hb fun ov => ?_
  have hpos : methodCallPos true o env apos pos = pure pos := by unfold methodCallPos; simp [hl]
  unfold methodCall
  rw [hf, hpos]
  rfl
theorem pe_mthSD {CX : CXT} {C f : Addr} {k : Nat} {fd : FuncData} {ps : List Str} {sp : Sp} {E : L2.St → XK} {m : Str} {apos pos : Pos} {o e : Expr} {es : List Expr} {ta : TE} {t : TA} {pl : Sem Bool} (he : PE X o ta) (c : Cls X.K C) (hm : Meth X.K C m f) (F : FnOk X.prog X.w X.K X.mg X.base CX k f fd ps sp) (hr : Room k X.A) (hb : Binds X.K fd ps [])
    (hx : ∀ σ, PassesAt CX X σ (E σ)) (ha : PA X (e :: es) t) (hst : starEach (e :: es) X.env = (false, eval e X.env) :: starEach es X.env) (hpl : (backTo pos (starEach es X.env)).any (·.1) = false)
    (ht : eval (.Call (.Attribute o m apos) (e :: es) [] pos) X.env = (do
      let ov ← eval o X.env
      standAt apos.atName
      let (f, first) ← holding [ov] (getMethod ov m pl)
      callWith pos f first (backTo pos (starEach (e :: es) X.env)) (backToKw pos (keywordEach [] X.env)))) :
    PE X (.Call (.Attribute o m apos) (e :: es) [] pos) (tMethSD C m sp E ta t) := by
  refine ⟨fun pins s σ H Q I h => ?_⟩
  refine PySem.W.methodCall_KW (pl := pl) (thn (he.run pins s σ H _ I h) fun u s1 ⟨x, H1, I1, rx, a, dx, fs, ex, ea, l, q⟩ => ?_) ht
  subst ex
  obtain rfl : u = Value.ref a := rx
  refine getmeth_ok I1 ea c hm l ?_
  refine PySem.W.callWith_K (first := [.ref a]) (h₀ := X.base) I.ok.mod.kin hm.kp (thn (ha.run pos pins s1 σ H1 _ I1 q) fun us s2 ⟨vs, H2, I2, r, q2⟩ => ⟨I2.kIn, ?_⟩) hst hpl
  exact run_fnSD (us := .ref a :: us) (vs := .ref a :: vs) F hr hb .nil (hx σ) I2 (.cons rfl r) (by rw [List.append_nil]; exact q2)
theorem pe_mthSD0 {CX : CXT} {C f : Addr} {k : Nat} {fd : FuncData} {ps : List Str} {sp : Sp} {E : L2.St → XK} {m : Str} {apos pos : Pos} {o : Expr} {ta : TE} {pl : Sem Bool} (he : PE X o ta) (c : Cls X.K C) (hm : Meth X.K C m f) (F : FnOk X.prog X.w X.K X.mg X.base CX k f fd ps sp) (hr : Room k X.A) (hb : Binds X.K fd ps [])
    (hx : ∀ σ, PassesAt CX X σ (E σ))
    (ht : eval (.Call (.Attribute o m apos) [] [] pos) X.env = (do
      let ov ← eval o X.env
      standAt apos.atName
      let (f, first) ← holding [ov] (getMethod ov m pl)
      callWith pos f first (backTo pos (starEach [] X.env)) (backToKw pos (keywordEach [] X.env)))) :
    PE X (.Call (.Attribute o m apos) [] [] pos) (tMethSD C m sp E ta tNil) := by
  refine ⟨fun pins s σ H Q I h => ?_⟩
  refine PySem.W.methodCall_KW (pl := pl) (thn (he.run pins s σ H _ I h) fun u s1 ⟨x, H1, I1, rx, a, dx, fs, ex, ea, l, q⟩ => ?_) ht
  subst ex
  obtain rfl : u = Value.ref a := rx
  refine getmeth_ok I1 ea c hm l ?_
  exact PySem.W.callWith_K0 (first := [.ref a]) I1.kIn hm.kp (run_fnSD (us := [.ref a]) (vs := [.ref a]) F hr hb .nil (hx σ) I1 (.cons rfl .nil) q)
theorem snd_mth (G : Good X Γ γ W P) (f : Nat) (c m : Str) (hb : Snd X γ W (den P b) (chk b Γ)) (ha : Snd X γ W (den P a) (chk a Γ)) : Snd X γ W (den P (.mth f c m b a)) (chk (.mth f c m b a) Γ) := by
  refine snd_ofV fun x h => ?_
  split at h
  case h_2 => cases h
  case h_1 v x apos es pos =>
    obtain ⟨h1, h8⟩ := band h
    obtain ⟨h1, h7⟩ := band h1
    obtain ⟨h1, h6⟩ := band h1
    obtain ⟨h1, h5⟩ := band h1
    obtain ⟨h1, h4⟩ := band h1
    obtain ⟨h1, h3⟩ := band h1
    obtain ⟨h0, h2⟩ := band h1
    have e1 := of_decide_eq_true h2
    subst e1
    have e5 := of_decide_eq_true h5
    obtain ⟨k, addr, fd, ps, C, F, hr, hc, cl, hm⟩ := G.fns h0 f _ (of_decide_eq_true h3)
    have bs := base_of b v h7 (plain_obj h6) x X.env
    have hform : methodCallForm (es.length + ([] : List Keyword).length) (backTo pos (starEach es X.env)) (backToKw pos (keywordEach [] X.env)) = true := by
      have := nostar a es h8 X.env pos
      have h9 : (backTo pos (starEach es X.env)).all (fun x => !x.1) = true := by
        rw [List.all_eq_true]
        intro y hy
        rw [List.any_eq_false] at this
        simpa using this y hy
      have e9 : backToKw pos (keywordEach [] X.env) = [] := rfl
      unfold methodCallForm
      rw [e9, h9]
      simpa using e5
    have ht := meth_tree bs hform h4
    refine ⟨?_, fun _ => rfl, fun _ _ _ z => nomatch z⟩
    have go : ∀ (b : Bool) {μ1 H1 σ ρ} {r : R D} {Q : VK}, PostR X.K γ W (relV X.K) μ1 H1 σ ρ (bif b then r else .bad) Q → b = true ∧ PostR X.K γ W (relV X.K) μ1 H1 σ ρ r Q := fun b {μ1 H1 σ ρ r Q} z => by
      cases b with
      | true => exact ⟨rfl, z⟩
      | false => exact z.elim
    have ins : ∀ {μ1 H1 σ ρ S1 d v}, Sim X.K μ1 σ H1 ρ S1 → RepV X.K H1 μ1 d v → mthOk S1 c x d = true → ∃ p dx gs, v = .ref p ∧ H1 p = some (.ins C dx gs) ∧ gs.lookup x = none := fun {μ1 H1 σ ρ S1 d v} s1 r1 ok => by
      unfold mthOk at ok
      split at ok
      case h_2 => cases ok
      case h_1 fs hi =>
        obtain ⟨n, p, C2, dx, gs, rfl, rfl, hS, hH, hc2, e3, r3, hm⟩ := s1.inst r1 hi
        have : C2 = C := by
          have := hc2.symm.trans hc
          cases this; rfl
        subst this
        exact ⟨p, dx, gs, rfl, hH, (lookup_rep x e3 r3).2 (Option.isNone_iff_eq_none.mp ok)⟩
    cases es with
    | nil =>
      have e0 : evs P a = fun ρ S => .ok [] S := by
        cases a <;> first | rfl | (exfalso; revert h8; simp [chk, Ck.ofE, Ck.no]; done)
      refine pe_imp (pe_mthSD0 (hb.e _ h7) cl hm F.ok hr F.bnd (fun σ => passAt G.tk σ) ht) fun σ H Q ⟨μ, ρ, S, s, q⟩ => ?_
      refine ⟨μ, ρ, S, s, (PostR.bind q).imp fun y H1 ⟨μ1, S1, d, le1, s1, r1, q1⟩ => ?_⟩
      obtain ⟨ok, q2⟩ := go _ q1
      obtain ⟨p, dx, gs, e2, e3, e4⟩ := ins s1 r1 ok
      refine ⟨p, dx, gs, e2, e3, e4, ?_⟩
      change PostR X.K γ W (relV X.K) μ1 H1 σ ρ ((evs P a ρ S1).bind fun ds S2 => P f (d :: ds) S2) Q at q2
      rw [e0] at q2
      exact sp_of F.len s1 (.cons r1 .nil) q2
    | cons e es =>
      obtain ⟨t1, t2⟩ := star_a a e es h8 X.env
      refine pe_imp (pe_mthSD (hb.e _ h7) cl hm F.ok hr F.bnd (fun σ => passAt G.tk σ) (ha.a _ h8) t1 (t2 pos) ht) fun σ H Q ⟨μ, ρ, S, s, q⟩ => ?_
      refine ⟨μ, ρ, S, s, (PostR.bind q).imp fun y H1 ⟨μ1, S1, d, le1, s1, r1, q1⟩ => ?_⟩
      obtain ⟨ok, q2⟩ := go _ q1
      obtain ⟨p, dx, gs, e2, e3, e4⟩ := ins s1 r1 ok
      exact ⟨p, dx, gs, e2, e3, e4, μ1, ρ, S1, s1, (PostR.bind q2).imp fun xs H2 ⟨μ2, S2, ds, le2, s2, r2, q3⟩ => sp_of F.len s2 (.cons (RepV.mono le2 r1) r2) q3⟩
end
end Ng

set_option Elab.async false
set_option linter.all false
set_option maxRecDepth 100000
set_option maxHeartbeats 4000000
/-! isinstance, range, comprehensions; the whole induction. -/
namespace Ng
open PySem PySem.Spec PyProof.Rows L2
section
variable {X : Cx} {γ : Nat → Value} {W : WX} {Γ : Gam} {P : Nat → List D → Store → R D} {a b c : E}
/-! ### isinstance -/
def tnames : List String := ["NoneType", "bool", "int", "str", "tuple", "list", "dict"]
theorem kit_tab : (tnames.all fun n => [Ty.int, .bool, .str, .tuple, .list, .dict].all fun t => decide (kitB n (tyName t) = some (n == tyName t || (n == "bool" && t == .int)))) = true := by decide +kernel
theorem kit_at {n : String} (hn : n ∈ tnames) (t : Ty) : kitB n (tyName t) = some (n == tyName t || (n == "bool" && t == .int)) := by
  have h := List.all_eq_true.mp kit_tab n hn
  have h2 := List.all_eq_true.mp h t (by cases t <;> decide)
  exact of_decide_eq_true h2
theorem ty_of {K : PySem.W.Frag} {μ : Mu} {H : Hp} {σ : L2.St} {ρ : Env} {S : Store} (s : Sim K μ σ H ρ S) {d : D} {v : V} (r : RepV K H μ d v) (hx : ∃ t b, isTy S t d = some b) :
    ∃ n, n ∈ tnames ∧ TyY K H v (.type n) ∧ ∀ t, isTy S t d = some (n == tyName t || (n == "bool" && t == .int)) := by
  obtain ⟨t0, b0, h0⟩ := hx
  cases r with
  | non => exact ⟨"NoneType", by decide, .x (.base .non), fun t => by cases t <;> rfl⟩
  | bl b => exact ⟨"bool", by decide, .x (.base (.bl b)), fun t => by cases t <;> rfl⟩
  | int i => exact ⟨"int", by decide, .x (.base (.int i)), fun t => by cases t <;> rfl⟩
  | str x => exact ⟨"str", by decide, .x (.base (.str x)), fun t => by cases t <;> rfl⟩
  | tup h r =>
    refine ⟨"tuple", by decide, ?_, fun t => by cases t <;> rfl⟩
    rcases h with (h | ⟨o, h⟩) | ⟨o, its, n, h, c, _⟩
    · exact .x (.base (.tup h))
    · exact .x (.fTuple h)
    · exact .x (.kTuple h c)
  | @ref n a hm =>
    simp only [isTy] at h0 ⊢
    split at h0
    · rename_i es e
      obtain ⟨vs, h1, _⟩ := s.s.cell n _ _ e hm
      exact ⟨"list", by decide, .x (.base (.lst h1)), fun t => by cases t <;> rfl⟩
    · rename_i es e
      obtain ⟨vs, h1, _⟩ := s.s.cell n _ _ e hm
      refine ⟨"list", by decide, ?_, fun t => by cases t <;> rfl⟩
      rcases h1 with ⟨o, h1⟩ | ⟨o, its, n, h1, c, _⟩
      · exact .x (.base (.frz h1))
      · exact .x (.kList h1 c)
    · rename_i es e
      obtain ⟨o, h1, h2⟩ := s.s.cell n _ _ e hm
      exact ⟨"dict", by decide, .dx h1, fun t => by cases t <;> rfl⟩
    · rename_i es e
      obtain ⟨o, h1, h2⟩ := s.s.cell n _ _ e hm
      cases o <;> first | exact h2.elim | skip
      exact ⟨"dict", by decide, .x (.base (.dK h1)), fun t => by cases t <;> rfl⟩
    · cases h0
  | exc c a => cases h0
theorem kit_any {K : PySem.W.Frag} {S : Store} {d : D} {n : String} (hn : n ∈ tnames) (h : ∀ t, isTy S t d = some (n == tyName t || (n == "bool" && t == .int))) :
    ∀ (ts : List Ty) (b : Bool), isTys S d ts = some b → PySem.W.kitAny K (.type n) (ts.map fun t => Value.type (tyName t)) = some b
  | [], b, e => by cases e; rfl
  | t :: ts, b, e => by
    simp only [isTys, h t] at e
    split at e
    case h_2 => cases e
    case h_1 x y e1 e2 =>
      cases e1
      cases e
      have ih := kit_any (K := K) hn h ts y e2
      refine kitAny_cons (kit_ty (kit_at hn t)) (fun z => ?_) (fun z => ?_)
      · rw [z]; simpa using ih
      · rw [z]; rfl
theorem pe_ty {Γ : Gam} (G : Good X Γ γ W P) (t : Ty) : ∀ e, tyExpr Γ t e = true → PE X e (tC (.ty (tyName t))) := by
  intro e h
  unfold tyExpr at h
  split at h
  case h_2 => cases h
  case h_1 x p =>
    obtain ⟨h1, h2⟩ := band h
    have e1 := of_decide_eq_true h1
    subst e1
    obtain ⟨g1, g2⟩ := bl_of G h2
    cases t
    · exact pe_bltn g1 g2 (u := .type "int") (by decide +kernel) rfl
    · exact pe_bltn g1 g2 (u := .type "bool") (by decide +kernel) rfl
    · exact pe_bltn g1 g2 (u := .type "str") (by decide +kernel) rfl
    · exact pe_bltn g1 g2 (u := .type "tuple") (by decide +kernel) rfl
    · exact pe_bltn g1 g2 (u := .type "list") (by decide +kernel) rfl
    · exact pe_bltn g1 g2 (u := .type "dict") (by decide +kernel) rfl
theorem ty_star {t : Ty} {e : Expr} (h : tyExpr Γ t e = true) : ∀ es env, starEach (e :: es) env = (false, eval e env) :: starEach es env := by
  intro es env
  cases e <;> first | rfl | (exfalso; simp [tyExpr] at h)
theorem pa_tys (G : Good X Γ γ W P) : ∀ (ts : List Ty) (es : List Expr), tyExprs Γ ts es = true → PA X es (fun _ H Q => Q (ts.map fun t => V.ty (tyName t)) H)
  | [], [], _ => pa_nil
  | [], _ :: _, h => nomatch h
  | _ :: _, [], h => nomatch h
  | t :: ts, e :: es, h => by
    obtain ⟨h1, h2⟩ := band h
    exact pa_cons (pe_ty G t e h1) (pa_tys G ts es h2) (ty_star h1 es _)
theorem paired_ty (ts : List Ty) : Paired ClsV (ts.map fun t => V.ty (tyName t)) (ts.map fun t => Value.type (tyName t)) := by
  induction ts with
  | nil => exact .nil
  | cons t ts ih => exact .cons (.ty _) ih
theorem isTys_some {S : Store} {d : D} : ∀ {ts : List Ty} {b : Bool}, ts ≠ [] → isTys S d ts = some b → ∃ t b, isTy S t d = some b
  | [], _, h, _ => absurd rfl h
  | t :: ts, b, _, e => by
    simp only [isTys] at e
    split at e
    case h_1 x y e1 e2 => exact ⟨t, x, e1⟩
    case h_2 => cases e
theorem pe_cls (G : Good X Γ γ W P) {y : Str} {tbl : List Bool} {p : Pos} (h1 : glX Γ y = true) (h2 : nodbg y = true) (h3 : Γ.isa.lookup y = some tbl) :
    ∃ cv v, (∀ u, RelV v u → u = cv) ∧ PE X (.Name y p) (tC v) ∧ ∀ c b, tbl[c]? = some b → PySem.W.kitOne X.K (γ c) cv = some b ∧ PySem.W.exmOne X.K (γ c) cv = some b := by
  obtain ⟨cv, v, r1, r2, r3, r4⟩ := G.isa _ _ h3
  refine ⟨cv, v, r1, ?_, r4⟩
  have hg := gl_of G h1
  obtain ⟨hd, _, _⟩ := nodbg_of h2
  rcases r3 with r3 | ⟨r3, r5, r6⟩
  · exact pe_glob hg r3 r2 hd
  · exact pe_bltn hg r3 r5 r2 r6 hd
theorem snd_isx (G : Good X Γ γ W P) (y : Str) (tbl : List Bool) (ha : Snd X γ W (den P a) (chk a Γ)) : Snd X γ W (den P (.isx a y tbl)) (chk (.isx a y tbl) Γ) := by
  refine snd_ofV fun x h => ?_
  split at h
  case h_2 => cases h
  case h_1 x p z y' p2 pos =>
    obtain ⟨h, h8⟩ := band h
    obtain ⟨h, h7⟩ := band h
    obtain ⟨h, h6⟩ := band h
    obtain ⟨h, h5⟩ := band h
    obtain ⟨h, h4⟩ := band h
    obtain ⟨h, h3⟩ := band h
    obtain ⟨h1, h2⟩ := band h
    have e1 := of_decide_eq_true h2
    have e2 := of_decide_eq_true h4
    subst e1 e2
    obtain ⟨n1, n2⟩ := bl_of G h3
    obtain ⟨cv, v, c1, c2, c3⟩ := pe_cls G (p := p2) h5 h6 (of_decide_eq_true h7)
    refine ⟨⟨fun pins s σ H Q I h => ?_⟩, fun _ => rfl, fun _ _ _ z => nomatch z⟩
    obtain ⟨μ, ρ, S, sm, q⟩ := h
    refine wpAny_Call_Name_kw (ld_blt I n1 n2 PyProof.Rows.boot_isinstance ?_ (by decide) (by decide))
    have hA : PA X [z, .Name y' p2] (tCons (tE X.K γ W (den P a).v) (tCons (tC v) tNil)) := pa_cons (ha.e _ h8) (pa_cons c2 pa_nil rfl) (star1 a z h8 _ _)
    refine PyProof.Rows.callWith_builtin1 (thn (hA.run pos pins s σ H (fun vs H1 => ∃ x, vs = [x, v] ∧ ∃ μ1 S1 d, Sim X.K μ1 σ H1 ρ S1 ∧ RepV X.K H1 μ1 d x ∧ PostR X.K γ W (relV X.K) μ1 H1 σ ρ (isxR P tbl d S1) Q) I ⟨μ, ρ, S, sm, (PostR.bind q).imp fun x H1 ⟨μ1, S1, d, le1, s1, r1, q1⟩ => ?_⟩) fun us s1 ⟨vs, H1, I1, r1, hq⟩ => ?_) (star1 a z h8 _ _) rfl
    · exact ⟨x, rfl, μ1, S1, d, s1, r1, q1⟩
    · obtain ⟨x, rfl, μ1, S1, d, sm1, rd, q1⟩ := hq
      unfold isxR at q1
      split at q1
      case h_2 => exact q1.elim
      case h_1 c a' =>
        cases rd
        have hb : P hotq [.exc c a'] S1 ≠ .bad := fun e => by rw [e] at q1; exact q1
        obtain ⟨e, C, hC, hcall⟩ := G.hot h1 c a' S1 hb
        rw [e] at q1
        change PostR X.K γ W (relV X.K) μ1 H1 σ ρ (match tbl[c]? with | some b => .ok (.bl b) S1 | none => .bad) Q at q1
        split at q1
        case h_2 => exact q1.elim
        case h_1 b hb2 =>
          have k := (c3 c b hb2).1
          rw [hC] at k
          exact hcall pins s1 σ H1 _ us Q I1 r1 ⟨v, cv, b, rfl, c1, k, q1.here sm1 (.bl b)⟩
theorem snd_isi (G : Good X Γ γ W P) (ts : List Ty) (multi : Bool) (ha : Snd X γ W (den P a) (chk a Γ)) : Snd X γ W (den P (.isi a ts multi)) (chk (.isi a ts multi) Γ) := by
  refine snd_ofV fun x h => ?_
  split at h
  case h_2 => cases h
  case h_1 x p y z pos =>
    obtain ⟨h1, h4⟩ := band h
    obtain ⟨g1, h3⟩ := band h1
    obtain ⟨g2, h2⟩ := band g1
    obtain ⟨g3, h5⟩ := band g2
    obtain ⟨h6, h7⟩ := band h5
    have h8 := of_decide_eq_true h7
    have e1 := of_decide_eq_true g3
    clear h g1 h1 g2 g3 h5 h7
    subst e1
    obtain ⟨n1, n2⟩ := bl_of G h2
    refine ⟨?_, fun _ => rfl, fun _ _ _ z => nomatch z⟩
    cases multi with
    | false =>
      change tyExprs Γ ts [z] = true at h4
      have : ∃ t, ts = [t] ∧ tyExpr Γ t z = true := by
        cases ts with
        | nil => cases h4
        | cons t ts =>
          cases ts with
          | nil => exact ⟨t, rfl, (band h4).1⟩
          | cons => obtain ⟨_, h6⟩ := band h4; cases h6
      obtain ⟨t, rfl, ht⟩ := this
      refine pe_imp (pe_callB call_isiY n1 n2 PyProof.Rows.boot_isinstance (pa_cons (ha.e _ h3) (pa_cons (pe_ty G t z ht) pa_nil (ty_star ht _ _)) (star1 a y h3 _ _)) (by decide) (by decide) (star1 a y h3 _ _) (by rw [ty_star ht]; rfl)) fun σ H Q ⟨μ, ρ, S, s, q⟩ => ?_
      refine ⟨μ, ρ, S, s, (PostR.bind q).imp fun x H1 ⟨μ1, S1, d, le1, s1, r1, q1⟩ => ?_⟩
      unfold isiR at q1
      split at q1
      case h_2 => exact q1.elim
      case h_1 b e =>
        obtain ⟨n, hn, ty, hk⟩ := ty_of s1 r1 (isTys_some (by simp) e)
        refine ⟨x, .ty (tyName t), .type n, .type (tyName t), _, rfl, .ty _, ty, kit_ty (kit_at hn t), ?_⟩
        simp only [isTys, hk t] at e
        cases e
        simpa using q1.here s1 (.bl _)
    | true =>
      rw [cond_true] at h4
      split at h4
      case h_2 => cases h4
      case h_1 es kk pp =>
        refine pe_imp (pe_callB call_isiTY n1 n2 PyProof.Rows.boot_isinstance (pa_cons (ha.e _ h3) (pa_cons (pe_tup (pa_tys G ts es h4)) pa_nil rfl) (star1 a y h3 _ _)) (by decide) (by decide) (star1 a y h3 _ _) rfl) fun σ H Q ⟨μ, ρ, S, s, q⟩ => ?_
        refine ⟨μ, ρ, S, s, (PostR.bind q).imp fun x H1 ⟨μ1, S1, d, le1, s1, r1, q1⟩ => ?_⟩
        unfold isiR at q1
        split at q1
        case h_2 => exact q1.elim
        case h_1 b e =>
          refine ⟨?_, fun p hp => ?_⟩
          · rw [List.length_map]
            exact Nat.le_trans h8 (by decide)
          · cases ts with
            | nil => cases h6
            | cons t ts =>
              have s2 := s1.new (o := .tup ((t :: ts).map fun t => V.ty (tyName t))) hp
              obtain ⟨n, hn, ty, hk⟩ := ty_of s2 (RepV.mono (le_new hp) r1) (isTys_some (by simp) e)
              exact ⟨x, p, _, .type n, _, b, rfl, upd_same, paired_ty _, ty, kit_any hn hk _ b e, q1.later (le_new hp) s2 (.bl _)⟩
/-! ### range -/
theorem PostR.bindE {α α' β β' : Type} {K : PySem.W.Frag} {rel : Mu → Hp → α → β → Prop} {rel' : Mu → Hp → α' → β' → Prop} {μ : Mu} {H : Hp} {σ : L2.St} {ρ : Env} {r : R α} {k : α → Store → R α'} {Q : β' → Hp → Prop} (h : PostR K γ W rel' μ H σ ρ (r.bind k) Q) :
    PostR K γ W rel μ H σ ρ r fun b H1 => ∃ μ1 S1 a, r = .ok a S1 ∧ Le K μ H μ1 H1 ∧ Sim K μ1 σ H1 ρ S1 ∧ rel μ1 H1 a b ∧ PostR K γ W rel' μ1 H1 σ ρ (k a S1) Q := by
  cases r with
  | ok a S' => exact fun μ' H' b l s rl => ⟨μ', S', a, rfl, l, s, rl, PostR.base l h⟩
  | exc c fs S' => exact h
  | bad => exact h
theorem evs_len : ∀ (a : E) es, (chk a Γ).a es = true → ∀ {ρ S ds S'}, (den P a).a ρ S = .ok ds S' → ds.length = es.length
  | .nil, es, h, ρ, S, ds, S', e => by
    cases es with
    | nil => cases e; rfl
    | cons => cases h
  | .cons a as, es, h, ρ, S, ds, S', e => by
    cases es with
    | nil => cases h
    | cons x r =>
      obtain ⟨h1, h2⟩ := band h
      change ((den P a).v ρ S).bind (fun x S1 => ((den P as).a ρ S1).bind fun xs S2 => .ok (x :: xs) S2) = .ok ds S' at e
      cases e1 : (den P a).v ρ S with
      | ok d S1 =>
        rw [e1] at e
        change ((den P as).a ρ S1).bind (fun xs S2 => .ok (d :: xs) S2) = .ok ds S' at e
        cases e2 : (den P as).a ρ S1 with
        | ok ds2 S2 =>
          rw [e2] at e
          cases e
          have ih := evs_len as r h2 e2
          simp [ih]
        | exc c fs S2 => rw [e2] at e; cases e
        | bad => rw [e2] at e; cases e
      | exc c fs S2 => rw [e1] at e; cases e
      | bad => rw [e1] at e; cases e
  | .var _, _, h, _, _, _, _, _ => nomatch h
  | .non, _, h, _, _, _, _, _ => nomatch h
  | .bl _, _, h, _, _, _, _, _ => nomatch h
  | .int _, _, h, _, _, _, _, _ => nomatch h
  | .str _, _, h, _, _, _, _, _ => nomatch h
  | .glb _ _, _, h, _, _, _, _, _ => nomatch h
  | .bin _ _ _, _, h, _, _, _, _, _ => nomatch h
  | .neg _, _, h, _, _, _, _, _ => nomatch h
  | .cmp _ _ _, _, h, _, _, _, _, _ => nomatch h
  | .chain _ _ _ _ _, _, h, _, _, _, _, _ => nomatch h
  | .not _, _, h, _, _, _, _, _ => nomatch h
  | .and _ _, _, h, _, _, _, _, _ => nomatch h
  | .or _ _, _, h, _, _, _, _, _ => nomatch h
  | .ite _ _ _, _, h, _, _, _, _, _ => nomatch h
  | .tup _, _, h, _, _, _, _, _ => nomatch h
  | .lst _, _, h, _, _, _, _, _ => nomatch h
  | .ix _ _, _, h, _, _, _, _, _ => nomatch h
  | .slc _ _ _, _, h, _, _, _, _, _ => nomatch h
  | .call _ _, _, h, _, _, _, _, _ => nomatch h
  | .bi _ _, _, h, _, _, _, _, _ => nomatch h
  | .me _ _ _, _, h, _, _, _, _, _ => nomatch h
  | .isi _ _ _, _, h, _, _, _, _, _ => nomatch h
  | .rng _, _, h, _, _, _, _, _ => nomatch h
  | .enm _, _, h, _, _, _, _, _ => nomatch h
  | .zp _, _, h, _, _, _, _, _ => nomatch h
  | .dd0, _, h, _, _, _, _, _ => nomatch h
  | .kdd _ _, _, h, _, _, _, _, _ => nomatch h
  | .pop0 _, _, h, _, _, _, _, _ => nomatch h
  | .lk _ _, _, h, _, _, _, _, _ => nomatch h
  | .dd1 _ _, _, h, _, _, _, _, _ => nomatch h
  | .dd2 _ _ _ _, _, h, _, _, _, _, _ => nomatch h
  | .bln _, _, h, _, _, _, _, _ => nomatch h
  | .gix _ _ _, _, h, _, _, _, _, _ => nomatch h
  | .fjs _, _, h, _, _, _, _, _ => nomatch h
  | .fmt _, _, h, _, _, _, _, _ => nomatch h
  | .sm _ _ _, _, h, _, _, _, _, _ => nomatch h
  | .sm0 _ _, _, h, _, _, _, _, _ => nomatch h
  | .gdx _ _ _, _, h, _, _, _, _, _ => nomatch h
  | .gdin _ _ _ _, _, h, _, _, _, _, _ => nomatch h
  | .lrv _, _, h, _, _, _, _, _ => nomatch h
  | .itm _, _, h, _, _, _, _, _ => nomatch h
  | .lc _ _ _ _ _, _, h, _, _, _, _, _ => nomatch h
theorem snd_rng (G : Good X Γ γ W P) (ha : Snd X γ W (den P a) (chk a Γ)) : Snd X γ W (den P (.rng a)) (chk (.rng a) Γ) where
  e := fun _ h => nomatch h
  t := fun _ h => nomatch h
  w := fun _ _ _ h => nomatch h
  a := fun _ h => nomatch h
  j := fun _ h => nomatch h
  k := fun _ h => nomatch h
  o := fun x h => by cases x <;> cases h
  i := fun x tg h => by
    simp only [chk] at h
    split at h
    case h_2 => cases h
    case h_1 x p es pos =>
      obtain ⟨h1, h4⟩ := band h
      obtain ⟨g1, h3⟩ := band h1
      obtain ⟨g2, h2⟩ := band g1
      have e1 := of_decide_eq_true g2
      clear h g1 h1 g2
      subst e1
      obtain ⟨n1, n2⟩ := bl_of G h2
      cases es with
      | nil => cases h3
      | cons e es =>
        obtain ⟨s1, s2⟩ := star_a a e es h4 X.env
        cases es with
        | nil =>
          refine pi_imp (pi_range1 n1 n2 (ha.a _ h4) (by rw [s1]; rfl)) fun σ H R ⟨μ, ρ, S, s, q⟩ => ?_
          refine ⟨μ, ρ, S, s, (PostR.bindE q).imp fun xs H1 ⟨μ1, S1, ds, eq, le1, s1, r1, q1⟩ => ?_⟩
          have hl := evs_len a _ h4 eq
          unfold rngR rgD at q1
          split at q1
          case h_2 => exact q1.elim
          case h_1 it e =>
            split at e
            · obtain ⟨v, rfl, rv⟩ := vs1 r1
              cases rv
              split at e
              case isFalse => cases e
              case isTrue hz =>
                cases e
                exact ⟨_, rfl, by omega, by omega, q1.here s1 wk_rng⟩
            · exfalso; simp at hl
            · exfalso; simp at hl
            · cases e
        | cons e2 es =>
          cases es with
          | cons e3 es =>
            cases es with
            | cons => simp at h3
            | nil =>
              obtain ⟨s3, s4, s5⟩ : starEach [e2, e3] X.env = [(false, eval e2 X.env), (false, eval e3 X.env)] ∧ starEach [e3] X.env = [(false, eval e3 X.env)] ∧ True := by
                cases a <;> first | (exfalso; revert h4; simp [chk, Ck.ofE, Ck.no]; done) | skip
                rename_i a1 a2
                obtain ⟨_, h5⟩ := band h4
                obtain ⟨s5, _⟩ := star_a a2 e2 [e3] h5 X.env
                cases a2 <;> first | (exfalso; revert h5; simp [chk, Ck.ofE, Ck.no]; done) | skip
                rename_i a3 a4
                obtain ⟨_, h6⟩ := band h5
                obtain ⟨s6, _⟩ := star_a a4 e3 [] h6 X.env
                exact ⟨by rw [s5, s6]; rfl, by rw [s6]; rfl, trivial⟩
              refine pi_imp (pi_range3 n1 n2 (ha.a _ h4) s1 (by rw [s3]; rfl)) fun σ H R ⟨μ, ρ, S, s, q⟩ => ?_
              refine ⟨μ, ρ, S, s, (PostR.bindE q).imp fun xs H1 ⟨μ1, S1, ds, eq, le1, s1, r1, q1⟩ => ?_⟩
              have hl := evs_len a _ h4 eq
              unfold rngR rgD at q1
              split at q1
              case h_2 => exact q1.elim
              case h_1 it e =>
                split at e
                · exfalso; simp at hl
                · exfalso; simp at hl
                · rename_i ia ib ic
                  cases r1 with
                  | cons rv rs =>
                    cases rs with
                    | cons ru rs =>
                      cases rs with
                      | cons rw' rs =>
                        cases rs
                        cases rv; cases ru; cases rw'
                        split at e
                        case isFalse => cases e
                        case isTrue hz =>
                          cases e
                          obtain ⟨rfl, hz⟩ := hz
                          exact ⟨_, _, _, _, rfl, RgC.neg (by omega) (by omega) (by omega) (by omega), q1.here s1 wk_rngN⟩
                · cases e
          | nil =>
            obtain ⟨s3, s4⟩ : starEach [e2] X.env = [(false, eval e2 X.env)] ∧ True := by
              cases a <;> first | (exfalso; revert h4; simp [chk, Ck.ofE, Ck.no]; done) | skip
              rename_i a1 a2
              obtain ⟨_, h5⟩ := band h4
              obtain ⟨s5, _⟩ := star_a a2 e2 [] h5 X.env
              exact ⟨by rw [s5]; rfl, trivial⟩
            refine pi_imp (pi_range2 n1 n2 (ha.a _ h4) (by rw [s1, s3]) s3) fun σ H R ⟨μ, ρ, S, s, q⟩ => ?_
            refine ⟨μ, ρ, S, s, (PostR.bindE q).imp fun xs H1 ⟨μ1, S1, ds, eq, le1, s1, r1, q1⟩ => ?_⟩
            have hl := evs_len a _ h4 eq
            unfold rngR rgD at q1
            split at q1
            case h_2 => exact q1.elim
            case h_1 it e =>
              split at e
              · exfalso; simp at hl
              · obtain ⟨v, u, rfl, rv, ru⟩ := vs2 r1
                cases rv; cases ru
                split at e
                case isFalse => cases e
                case isTrue hz =>
                  cases e
                  exact ⟨_, _, rfl, by omega, q1.here s1 wk_rng⟩
              · exfalso; simp at hl
              · cases e
theorem wk_zipT {K : PySem.W.Frag} {μ : Mu} {H : Hp} {ds es : List D} {vs ws : List V} {a b : Addr} (hq : SqT K H a vs) (r : RepVs K H μ ds vs) (hq2 : SqT K H b ws) (r2 : RepVs K H μ es ws) : Wk K μ H ⟨zipD ds es, none⟩ (RZ.ItzT K a b) := by
  intro μ1 σ H1 ρ S i le s _
  have hqa := le.tup _ _ hq
  have ra := r.mono le
  have hqb := le.tup _ _ hq2
  have rb := r2.mono le
  refine ⟨fun hn => ⟨vs, ws, hqa, hqb, ?_⟩, fun d hd => ?_⟩
  · have := List.getElem?_eq_none_iff.mp hn
    rw [r.length, r2.length]
    simp [zipD] at this
    omega
  · unfold zipD at hd
    rw [List.getElem?_map] at hd
    cases e : (ds.zip es)[i]? with
    | none => rw [e] at hd; cases hd
    | some p =>
      rw [e] at hd
      cases hd
      obtain ⟨p1, p2⟩ := p
      obtain ⟨e1, e2⟩ := List.getElem?_zip_eq_some.mp e
      obtain ⟨v, h1, h2⟩ := ra.get e1
      obtain ⟨u, h3, h4⟩ := rb.get e2
      refine ⟨⟨vs, ws, v, u, hqa, hqb, h1, h3⟩, fun x H' ⟨T, x1, y1, ex, hT, eH, hx, hy⟩ => ?_⟩
      subst ex eH
      have := hx vs hqa
      rw [h1] at this
      cases this
      have := hy ws hqb
      rw [h3] at this
      cases this
      exact ⟨μ1, le_new hT, s.new hT, .tup (.of upd_same) (.cons (h2.mono (le_new hT)) (.cons (h4.mono (le_new hT)) .nil))⟩
theorem wk_zipM {K : PySem.W.Frag} {μ : Mu} {H : Hp} {n : Nat} {ds es : List D} {ws : List V} {a b : Addr} (hm : μ[n]? = some a) (hq2 : SqT K H b ws) (r2 : RepVs K H μ es ws) : Wk K μ H ⟨zipD ds es, some (n, .lst ds)⟩ (ItzM K a b) := by
  intro μ1 σ H1 ρ S i le s hck
  have hS : S[n]? = some (.lst ds) := by simpa [ckS] using hck
  obtain ⟨vs, h1, ra⟩ := s.s.cell n _ _ hS (le.at hm)
  have hqa : SqL K H1 a vs := .of h1
  have hqb := le.tup _ _ hq2
  have rb := r2.mono le
  refine ⟨fun hn => ⟨vs, ws, hqa, hqb, ?_⟩, fun d hd => ?_⟩
  · have := List.getElem?_eq_none_iff.mp hn
    rw [ra.length, r2.length]
    simp [zipD] at this
    omega
  · unfold zipD at hd
    rw [List.getElem?_map] at hd
    cases e : (ds.zip es)[i]? with
    | none => rw [e] at hd; cases hd
    | some p =>
      rw [e] at hd
      cases hd
      obtain ⟨p1, p2⟩ := p
      obtain ⟨e1, e2⟩ := List.getElem?_zip_eq_some.mp e
      obtain ⟨v, h1', h2⟩ := ra.get e1
      obtain ⟨u, h3, h4⟩ := rb.get e2
      refine ⟨⟨vs, ws, v, u, hqa, hqb, h1', h3⟩, fun x H' ⟨T, x1, y1, ex, hT, eH, hx, hy⟩ => ?_⟩
      subst ex eH
      have := hx vs hqa
      rw [h1'] at this
      cases this
      have := hy ws hqb
      rw [h3] at this
      cases this
      exact ⟨μ1, le_new hT, s.new hT, .tup (.of upd_same) (.cons (h2.mono (le_new hT)) (.cons (h4.mono (le_new hT)) .nil))⟩
theorem enD_get : ∀ (ds : List D) (k i : Nat), (enD k ds)[i]? = (ds[i]?).map fun d => .tup [.int ((k + i : Nat) : Int), d]
  | [], k, i => by simp [enD]
  | d :: ds, k, 0 => by simp [enD]
  | d :: ds, k, i + 1 => by
    simp only [enD, List.getElem?_cons_succ]
    rw [enD_get ds (k + 1) i, show k + 1 + i = k + (i + 1) by omega]
theorem wk_enumT {K : PySem.W.Frag} {μ : Mu} {H : Hp} {ds : List D} {vs : List V} {a : Addr} (hq : SqT K H a vs) (r : RepVs K H μ ds vs) : Wk K μ H ⟨enD 0 ds, none⟩ (IteT K a) := by
  intro μ1 σ H1 ρ S i le s _
  have hqa := le.tup _ _ hq
  have ra := r.mono le
  refine ⟨fun hn => ⟨vs, hqa, ?_⟩, fun d hd => ?_⟩
  · rw [enD_get, Option.map_eq_none_iff, List.getElem?_eq_none_iff] at hn
    rw [r.length]; exact hn
  · rw [enD_get] at hd
    obtain ⟨x, e1, rfl⟩ := Option.map_eq_some_iff.mp hd
    obtain ⟨v, h1, h2⟩ := ra.get e1
    refine ⟨⟨vs, v, hqa, h1⟩, fun y H' ⟨T, x1, ex, hT, eH, hx⟩ => ?_⟩
    subst ex eH
    have := hx vs hqa
    rw [h1] at this
    cases this
    rw [Nat.zero_add]
    exact ⟨μ1, le_new hT, s.new hT, .tup (.of upd_same) (.cons (.int _) (.cons (h2.mono (le_new hT)) .nil))⟩
theorem wk_enumL {K : PySem.W.Frag} {μ : Mu} {H : Hp} {n : Nat} {ds : List D} {a : Addr} (hm : μ[n]? = some a) : Wk K μ H ⟨enD 0 ds, some (n, .lst ds)⟩ (Ite K a) := by
  intro μ1 σ H1 ρ S i le s hck
  have hS : S[n]? = some (.lst ds) := by simpa [ckS] using hck
  obtain ⟨vs, h1, ra⟩ := s.s.cell n _ _ hS (le.at hm)
  have hqa : SqL K H1 a vs := .of h1
  refine ⟨fun hn => ⟨vs, hqa, ?_⟩, fun d hd => ?_⟩
  · rw [enD_get, Option.map_eq_none_iff, List.getElem?_eq_none_iff] at hn
    rw [ra.length]; exact hn
  · rw [enD_get] at hd
    obtain ⟨x, e1, rfl⟩ := Option.map_eq_some_iff.mp hd
    obtain ⟨v, h1', h2⟩ := ra.get e1
    refine ⟨⟨vs, v, hqa, h1'⟩, fun y H' ⟨T, x1, ex, hT, eH, hx⟩ => ?_⟩
    subst ex eH
    have := hx vs hqa
    rw [h1'] at this
    cases this
    rw [Nat.zero_add]
    exact ⟨μ1, le_new hT, s.new hT, .tup (.of upd_same) (.cons (.int _) (.cons (h2.mono (le_new hT)) .nil))⟩
theorem star_2 : ∀ (a : E) e e2, (chk a Γ).a [e, e2] = true → ∀ env, starEach [e2] env = [(false, eval e2 env)] := by
  intro a e e2 h env
  cases a <;> first | (exfalso; revert h; simp [chk, Ck.ofE, Ck.no]; done) | skip
  rename_i a1 a2
  obtain ⟨_, h5⟩ := band h
  obtain ⟨s5, _⟩ := star_a a2 e2 [] h5 env
  rw [s5]; rfl
theorem snd_zp (G : Good X Γ γ W P) (ha : Snd X γ W (den P a) (chk a Γ)) : Snd X γ W (den P (.zp a)) (chk (.zp a) Γ) where
  e := fun _ h => nomatch h
  t := fun _ h => nomatch h
  w := fun _ _ _ h => nomatch h
  a := fun _ h => nomatch h
  j := fun _ h => nomatch h
  k := fun _ h => nomatch h
  o := fun x h => by cases x <;> cases h
  i := fun x tg h => by
    simp only [chk] at h
    split at h
    case h_2 => cases h
    case h_1 x p es pos =>
      obtain ⟨h1, h5⟩ := band h
      obtain ⟨h1, h4⟩ := band h1
      obtain ⟨g1, h3⟩ := band h1
      obtain ⟨g2, h2⟩ := band g1
      have e1 := of_decide_eq_true g2
      clear h g1 h1 g2
      subst e1
      obtain ⟨n1, n2⟩ := bl_of G h2
      match es, h3, h5 with
      | [e, e2], _, h5 =>
        obtain ⟨s1, s2⟩ := star_a a e [e2] h5 X.env
        have s3 := star_2 a e e2 h5 X.env
        cases tg <;> first | (cases h4; done) | skip
        refine pi_imp (pi_zipM n1 n2 (ha.a _ h5) s1 (s2 pos)) fun σ H R ⟨μ, ρ, S, s, q⟩ => ?_
        refine ⟨μ, ρ, S, s, (PostR.bindE q).imp fun xs H1 ⟨μ1, S1, ds, eq, le1, s1, r1, q1⟩ => ?_⟩
        unfold zipR at q1
        split at q1
        · obtain ⟨v, u, rfl, rv, ru⟩ := vs2 r1
          cases rv with
          | tup hv rvs =>
            cases ru with
            | tup hu rus => exact ⟨_, _, _, _, rfl, .inr ⟨hv, hu, q1.here s1 (wk_zipT hv rvs hu rus)⟩⟩
        · obtain ⟨v, u, rfl, rv, ru⟩ := vs2 r1
          split at q1
          case h_2 => exact q1.elim
          case h_1 xs e =>
            cases ru with
            | tup hu rus =>
              obtain ⟨p, vs, rfl, h6, r3, hm⟩ := s1.list rv e
              exact ⟨_, _, _, _, rfl, .inl ⟨.of h6, hu, q1.here s1 (wk_zipM hm hu rus)⟩⟩
        · exact q1.elim
theorem snd_enm (G : Good X Γ γ W P) (ha : Snd X γ W (den P a) (chk a Γ)) : Snd X γ W (den P (.enm a)) (chk (.enm a) Γ) where
  e := fun _ h => nomatch h
  t := fun _ h => nomatch h
  w := fun _ _ _ h => nomatch h
  a := fun _ h => nomatch h
  j := fun _ h => nomatch h
  k := fun _ h => nomatch h
  o := fun x h => by cases x <;> cases h
  i := fun x tg h => by
    simp only [chk] at h
    split at h
    case h_2 => cases h
    case h_1 x p es pos =>
      obtain ⟨h1, h5⟩ := band h
      obtain ⟨h1, h4⟩ := band h1
      obtain ⟨g1, h3⟩ := band h1
      obtain ⟨g2, h2⟩ := band g1
      have e1 := of_decide_eq_true g2
      clear h g1 h1 g2
      subst e1
      obtain ⟨n1, n2⟩ := bl_of G h2
      match es, h3, h5 with
      | [e], _, h5 =>
        obtain ⟨s1, s2⟩ := star_a a e [] h5 X.env
        cases tg <;> first | (cases h4; done) | skip
        refine pi_imp (pi_enumM n1 n2 (ha.a _ h5) s1) fun σ H R ⟨μ, ρ, S, s, q⟩ => ?_
        refine ⟨μ, ρ, S, s, (PostR.bindE q).imp fun xs H1 ⟨μ1, S1, ds, eq, le1, s1, r1, q1⟩ => ?_⟩
        unfold enmR at q1
        split at q1
        · obtain ⟨v, rfl, rv⟩ := vs1 r1
          cases rv with
          | tup hv rvs => exact ⟨_, _, rfl, .inr ⟨hv, q1.here s1 (wk_enumT hv rvs)⟩⟩
        · obtain ⟨v, rfl, rv⟩ := vs1 r1
          split at q1
          case h_2 => exact q1.elim
          case h_1 xs e =>
            obtain ⟨p, vs, rfl, h6, r3, hm⟩ := s1.list rv e
            exact ⟨_, _, rfl, .inl ⟨.of h6, q1.here s1 (wk_enumL hm)⟩⟩
        · exact q1.elim
theorem RepVs.reverse {K : PySem.W.Frag} {H : Hp} {μ : Mu} {ds : List D} {vs : List V} (r : RepVs K H μ ds vs) : RepVs K H μ ds.reverse vs.reverse := by
  induction ds generalizing vs with
  | nil => cases r; exact .nil
  | cons d ds ih =>
    cases r with
    | cons h r =>
      rw [List.reverse_cons, List.reverse_cons]
      exact (ih r).append (.cons h .nil)
theorem snd_bln (G : Good X Γ γ W P) (hb : Snd X γ W (den P b) (chk b Γ)) : Snd X γ W (den P (.bln b)) (chk (.bln b) Γ) := by
  refine snd_ofV fun x h => ?_
  split at h
  case h_2 => cases h
  case h_1 v x apos pos =>
    obtain ⟨h1, h4⟩ := band h
    obtain ⟨h1, h3⟩ := band h1
    obtain ⟨h1, h2⟩ := band h1
    have e1 := of_decide_eq_true h1
    subst e1
    refine ⟨?_, fun _ => rfl, fun _ _ _ z => nomatch z⟩
    have hp : ∀ f as ks p, v ≠ .Call f as ks p := plain_obj h3
    refine pe_imp (pe_bits (hb.e _ h4) (base_of b v h4 hp _ _) h2) fun σ H Q ⟨μ, ρ, S, s, q⟩ => ?_
    refine ⟨μ, ρ, S, s, (PostR.bind q).imp fun x H1 ⟨μ1, S1, d, le1, s1, r1, q1⟩ => ?_⟩
    unfold blnR at q1
    split at q1
    · cases r1
      exact ⟨_, rfl, q1.here s1 (.int _)⟩
    · exact q1.elim
theorem snd_lrv (G : Good X Γ γ W P) (hb : Snd X γ W (den P b) (chk b Γ)) : Snd X γ W (den P (.lrv b)) (chk (.lrv b) Γ) := by
  refine snd_ofV fun x h => ?_
  split at h
  case h_2 => cases h
  case h_1 x p y p2 e pos2 pos =>
    obtain ⟨k5, h6⟩ := band h
    obtain ⟨k4, h5⟩ := band k5
    obtain ⟨k3, h4⟩ := band k4
    obtain ⟨k2, h3⟩ := band k3
    obtain ⟨k1, h2⟩ := band k2
    clear h k5 k4 k3 k2
    have e1 := of_decide_eq_true h2
    have e2 := of_decide_eq_true h4
    subst e1 e2
    obtain ⟨n1, n2⟩ := bl_of G h3
    obtain ⟨n3, n4⟩ := bl_of G h5
    refine ⟨?_, fun _ => rfl, fun _ _ _ z => nomatch z⟩
    refine pe_imp (pe_lstRev (G.calm k1) n1 n2 n3 n4 (hb.e _ h6) (star1 b e h6 [] X.env)) fun σ H Q ⟨μ, ρ, S, s, q⟩ => ?_
    refine ⟨μ, ρ, S, s, (PostR.bind q).imp fun x H1 ⟨μ1, S1, d, le1, s1, r1, q1⟩ => ?_⟩
    unfold lrvR at q1
    split at q1
    · split at q1
      · rename_i ds e
        obtain ⟨p, vs, rfl, h7, r3, hm⟩ := s1.list r1 e
        exact ⟨_, _, rfl, .of h7, q1.newL s1 r3.reverse⟩
      · exact q1.elim
    · exact q1.elim
/-! ### targets -/
/-- what an assignment to names wants -/
def gT (K : PySem.W.Frag) (tg : E) : TG := fun v σ H Q => ∃ μ ρ S d ρ', Sim K μ σ H ρ S ∧ RepV K H μ d v ∧ asgT tg d ρ = some ρ' ∧
  ∀ σ', Sim K μ σ' H ρ' S → (∀ i, i ∉ tgSlots tg → σ'[i]? = σ[i]?) → Q σ' H
theorem RepE.set {K : PySem.W.Frag} {H : Hp} {μ : Mu} {σ : L2.St} {ρ : Env} {d : D} {v : V} (r : RepE K H μ σ ρ) (rv : RepV K H μ d v) (i : Nat) : RepE K H μ (σ.set i (some v)) (ρ.set i (some d)) := by
  refine ⟨by simp [r.1], fun j e h => ?_⟩
  by_cases hij : i = j
  · subst hij
    by_cases hi : i < ρ.length
    · rw [List.getElem?_set_self hi] at h
      cases h
      exact ⟨v, by rw [List.getElem?_set_self (by rw [r.1]; exact hi)], rv⟩
    · rw [List.getElem?_eq_none_iff.mpr (by simp; omega)] at h
      cases h
  · rw [List.getElem?_set_ne hij] at h
    obtain ⟨u, h1, h2⟩ := r.2 j e h
    exact ⟨u, by rw [List.getElem?_set_ne hij]; exact h1, h2⟩
theorem pg_nm (G : Good X Γ γ W P) {i : Nat} {x : Str} {p : Pos} (h : ckName Γ i x = true) : PG X (.Name x p) (gName i) := by
  obtain ⟨h1, h2⟩ := band h
  have hN : X.N[i]? = some x := by rw [G.N]; exact of_decide_eq_true h1
  have hs : X.env.scope.names = Γ.sc.names := by rw [G.sc]
  split at h2
  · rename_i e
    exact pg_name G.nd hN (.inl (by rw [hs]; exact e)) (.inr (by rw [hs]; exact e))
  · rename_i e
    exact pg_name G.nd hN (.inr (by rw [hs]; exact e)) (.inl (G.fn x h2))
  · cases h2
theorem pgs_nm (G : Good X Γ γ W P) : ∀ (ts : E) (es : List Expr), ckGs Γ ts es = true → ∃ t, PGs X es t ∧ (∀ vs σ H Q μ ρ S ds ρ', Sim X.K μ σ H ρ S → RepVs X.K H μ ds vs → asgT.asgTs ts ds ρ = some ρ' →
    (∀ σ', Sim X.K μ σ' H ρ' S → (∀ i, i ∉ tgSlots ts → σ'[i]? = σ[i]?) → Q σ' H) → t vs σ H Q) ∧ (assignEach es X.env).length = es.length ∧ (assignEach es X.env).findIdx? (·.1) = none ∧ ∀ ds ρ ρ', asgT.asgTs ts ds ρ = some ρ' → ds.length = es.length := by
  intro ts es
  induction es generalizing ts with
  | nil =>
    intro h
    unfold ckGs at h
    split at h <;> first | (cases h; done) | skip
    · refine ⟨gNil, pgs_nil, fun vs σ H Q μ ρ S ds ρ' s r e q => ?_, rfl, rfl, fun ds ρ ρ' e => ?_⟩
      · cases r with
        | nil => simp only [asgT.asgTs, Option.some.injEq] at e; subst e; exact ⟨rfl, q σ s fun _ _ => rfl⟩
        | cons => simp [asgT.asgTs] at e
      · cases ds with
        | nil => rfl
        | cons => simp [asgT.asgTs] at e
    · rename_i h1; cases h1
  | cons e es ih =>
    intro h
    unfold ckGs at h
    split at h <;> first | (cases h; done) | skip
    · rename_i h1; cases h1
    · rename_i i ts x p es' heq
      cases heq
      obtain ⟨h1, h2⟩ := band h
      obtain ⟨t, pt, ht, hl, hf, hd⟩ := ih ts h2
      refine ⟨gCons (gName i) t, pgs_cons (pg_nm G h1) pt, fun vs σ H Q μ ρ S ds ρ' s r e q => ?_, ?_, ?_, fun ds ρ ρ' e => ?_⟩
      · cases r with
        | nil => simp [asgT.asgTs] at e
        | cons rv rs =>
          simp only [asgT.asgTs] at e
          refine ⟨_, _, rfl, ht _ _ H Q μ _ S _ ρ' ⟨s.e.set rv i, s.s⟩ rs e fun σ' s' hs => q σ' s' fun j hj => ?_⟩
          simp only [tgSlots, List.mem_cons, not_or] at hj
          rw [hs j hj.2, List.getElem?_set_ne (Ne.symm hj.1)]
      · show (assignEach es X.env).length + 1 = _
        rw [hl]; rfl
      · show List.findIdx? (·.1) ((false, _) :: assignEach es X.env) = none
        rw [List.findIdx?_cons]
        simp [hf]
      · cases ds with
        | nil => simp [asgT.asgTs] at e
        | cons d ds =>
          simp only [asgT.asgTs] at e
          simp [hd ds _ ρ' e]
theorem pg_all (G : Good X Γ γ W P) (tg : E) (e : Expr) (h : ckG Γ tg e = true) : PG X e (gT X.K tg) := by
  unfold ckG at h
  split at h
  · rename_i i x p
    refine ⟨fun pins s σ H v u Q I r ⟨μ, ρ, S, d, ρ', s1, rv, e, q⟩ => (pg_nm G h).run pins s σ H v u Q I r ?_⟩
    simp only [asgT, Option.some.injEq] at e
    subst e
    exact q _ ⟨s1.e.set rv i, s1.s⟩ fun j hj => by rw [List.getElem?_set_ne (by simpa [tgSlots, eq_comm] using hj)]
  · rename_i ts es k p
    obtain ⟨h1, h2⟩ := band h
    obtain ⟨t, pt, ht, hl, hf, hd⟩ := pgs_nm G ts es h2
    refine ⟨fun pins s σ H v u Q I r ⟨μ, ρ, S, d, ρ', s1, rv, e, q⟩ => (pg_tup (n := es.length) (G.calm h1) pt hl hf).run pins s σ H v u Q I r ?_⟩
    cases rv with
    | tup g1 g2 => exact ⟨_, _, rfl, g1, by rw [g2.length]; exact hd _ ρ ρ' e, ht _ σ H Q μ ρ S _ ρ' s1 g2 e q⟩
    | _ => cases e
  · cases h
/-! ### comprehensions -/
theorem wipe_same {σ2 σ : L2.St} : ∀ {own : List Nat}, σ2.length = σ.length → (∀ i, i ∉ own → σ2[i]? = σ[i]?) → wipe σ2 own = wipe σ own := by
  intro own hl h
  apply List.ext_getElem?
  intro i
  have key : ∀ (τ : L2.St) (vs : List Nat), (wipe τ vs)[i]? = if i ∈ vs then (if i < τ.length then some none else none) else τ[i]? := by
    intro τ vs
    induction vs with
    | nil => simp [wipe]
    | cons v vs ih =>
      show ((wipe τ vs).set v none)[i]? = _
      by_cases e : v = i
      · subst e
        simp only [List.mem_cons, true_or, if_true]
        by_cases hi : v < τ.length
        · rw [List.getElem?_set_self (by rw [wipe_length]; exact hi), if_pos hi]
        · rw [List.getElem?_eq_none_iff.mpr (by simp [wipe_length]; omega), if_neg hi]
      · rw [List.getElem?_set_ne e, ih]
        simp [Ne.symm e]
  rw [key, key]
  by_cases hi : i ∈ own
  · rw [if_pos hi, if_pos hi, hl]
  · rw [if_neg hi, if_neg hi, h i hi]
theorem RepE.wipe {K : PySem.W.Frag} {H : Hp} {μ : Mu} {σ : L2.St} {ρ : Env} (r : RepE K H μ σ ρ) : ∀ own : List Nat, RepE K H μ (L2.wipe σ own) (wipeE ρ own)
  | [] => r
  | v :: vs => by
    have ih := RepE.wipe r vs
    refine ⟨by simp [L2.wipe, wipeE, ih.1], fun i d h => ?_⟩
    change ((wipeE ρ vs).set v none)[i]? = _ at h
    show ∃ u, ((L2.wipe σ vs).set v none)[i]? = some (some u) ∧ _
    by_cases e : v = i
    · subst e
      by_cases hi : v < (wipeE ρ vs).length
      · rw [List.getElem?_set_self hi] at h; cases h
      · rw [List.getElem?_eq_none_iff.mpr (by simp; omega)] at h; cases h
    · rw [List.getElem?_set_ne e] at h ⊢
      exact ih.2 i d h
theorem relabel_eq {scope : Scope} {env : PySem.Env} (h : env.scope = Γ.sc) : (relabel scope env) = relS scope Γ.sc := by
  rw [← h]; rfl
theorem good_blk (G : Good X Γ γ W P) (scope : Scope) (s : Shared) (H : Hp) (Cc : Addr) (cl : List (Str × Addr)) (fp : List Addr) :
    Good (X.blk s H scope (compEnvC scope cl Cc X.env) fp) (Γ.blk scope) γ (fun _ _ _ _ => False) P where
  N := G.N
  nd := G.nd
  sc := relabel_eq G.sc
  fn := fun x h => h
  calm := G.calm
  un := G.un
  glb := G.glb
  blt := G.blt
  tk := fun u s' ⟨_, _, _, _, _, _, _, _, _, _, _, _, _, _, _, _, w⟩ => w
  fns := G.fns
  atr := G.atr
  isa := G.isa
  hot := fun h => nomatch h
theorem drop_at {α : Type} {l : List α} {i : Nat} {x : α} (h : l[i]? = some x) : l.drop i = x :: l.drop (i + 1) := by
  obtain ⟨hi, e⟩ := List.getElem?_eq_some_iff.mp h
  rw [List.drop_eq_getElem_cons hi, e]
theorem PostR.cond {α β : Type} {K : PySem.W.Frag} {rel : Mu → Hp → α → β → Prop} {μ : Mu} {H : Hp} {σ : L2.St} {ρ : Env} {b : Bool} {r : R α} {Q : β → Hp → Prop} (h : PostR K γ W rel μ H σ ρ (bif b then r else .bad) Q) : b = true ∧ PostR K γ W rel μ H σ ρ r Q := by
  cases b with
  | true => exact ⟨rfl, h⟩
  | false => exact h.elim
theorem wipeE_length (ρ : Env) : ∀ own : List Nat, (wipeE ρ own).length = ρ.length
  | [] => rfl
  | v :: vs => by
    show ((wipeE ρ vs).set v none).length = _
    rw [List.length_set, wipeE_length ρ vs]
theorem asgs_len : ∀ (ds : List D) (ts : E) (ρ ρ' : Env), asgT.asgTs ts ds ρ = some ρ' → ρ'.length = ρ.length := by
  intro ds
  induction ds with
  | nil =>
    intro ts ρ ρ' h
    unfold asgT.asgTs at h
    split at h
    · cases h; rfl
    · rename_i h1; cases h1
    · cases h
  | cons d ds ih =>
    intro ts ρ ρ' h
    unfold asgT.asgTs at h
    split at h
    · rename_i h1; cases h1
    · rename_i i ts' d' ds' heq
      cases heq
      rw [ih _ _ _ h, List.length_set]
    · cases h
theorem asg_len {tg : E} {d : D} {ρ ρ' : Env} (h : asgT tg d ρ = some ρ') : ρ'.length = ρ.length := by
  unfold asgT at h
  split at h
  · cases h; simp
  · exact asgs_len _ _ _ _ h
  · cases h
theorem lc_turn {K : PySem.W.Frag} {μ : Mu} {H : Hp} {σ : L2.St} {ρ : Env} {b : Bool} {r : R Unit} {n : Nat} {Q : VK} (h : PostR K γ W (relV K) μ H σ ρ ((bif b then r else .bad).bind fun _ S4 => .ok (.ref n) S4) Q) :
    b = true ∧ PostR K γ W (relV K) μ H σ ρ (r.bind fun _ S4 => .ok (.ref n) S4) Q := by
  cases b with
  | true => exact ⟨rfl, h⟩
  | false => exact h.elim
/-- what a comprehension's text brings -/
structure LcParts (X : Cx) (γ : Nat → Value) (W : WX) (v : Env → Store → R D) (el t it : Expr) (ifs : List Expr) (scope : Scope) (own : List (Str × Nat)) (wi : TI) (g : TG) (tt : TT) (te : TE) : Prop where
  hi : PI X t it wi
  ok : BlkOk X.N X.env.scope scope own
  hg : ∀ (s : Shared) (H : Hp) (Cc : Addr) (cl : List (Str × Addr)) (fp : List Addr), PG (X.blk s H scope (compEnvC scope cl Cc X.env) fp) t g
  ht : ∀ (s : Shared) (H : Hp) (Cc : Addr) (cl : List (Str × Addr)) (fp : List Addr), PTs (X.blk s H scope (compEnvC scope cl Cc X.env) fp) ifs tt
  he : ∀ (s : Shared) (H : Hp) (Cc : Addr) (cl : List (Str × Addr)) (fp : List Addr), PE (X.blk s H scope (compEnvC scope cl Cc X.env) fp) el te
  hs : ∀ x, foldedSetIterable it X.env x = pure x
  imp : ∀ σ H Q, tE X.K γ W v σ H Q → tLc wi g tt te (own.map (·.2)) σ H Q
theorem lc_parts (G : Good X Γ γ W P) (own : List Nat) {tg src cond elt : E} (hsrc : Snd X γ W (den P src) (chk src Γ))
    (hcond : ∀ {X : Cx} {Γ : Gam} {W : WX}, Good X Γ γ W P → Snd X γ W (den P cond) (chk cond Γ)) (helt : ∀ {X : Cx} {Γ : Gam} {W : WX}, Good X Γ γ W P → Snd X γ W (den P elt) (chk elt Γ))
    {x : Expr} (h : (chk (.lc own tg src cond elt) Γ).e x = true) : ∃ el t it ifs scope pos wi g tt te, x = .ListComp el [⟨t, it, ifs, 0⟩] scope pos ∧ Γ.calm = true ∧ LcParts X γ W (den P (.lc own tg src cond elt)).v el t it ifs scope (ownOf Γ.N own) wi g tt te := by
  simp only [chk, Ck.ofE] at h
  split at h
  case h_2 => cases h
  case h_1 el t it ifs scope pos =>
    obtain ⟨g1, h9⟩ := band h
    obtain ⟨g2, h8⟩ := band g1
    obtain ⟨g3, h7⟩ := band g2
    obtain ⟨g4, h6⟩ := band g3
    obtain ⟨g5, h5⟩ := band g4
    obtain ⟨g6, h4⟩ := band g5
    obtain ⟨g7, h3⟩ := band g6
    obtain ⟨h1, h2⟩ := band g7
    clear h g1 g2 g3 g4 g5 g6 g7
    have hown := of_decide_eq_true h5
    have hset : ∀ x, foldedSetIterable it X.env x = pure x := fun x => by
      cases it <;> first | rfl | simp [isSet] at h3
    have pts : ∀ (s : Shared) (H : Hp) (Cc : Addr) (cl : List (Str × Addr)) (fp : List Addr), PTs (X.blk s H scope (compEnvC scope cl Cc X.env) fp) ifs (tT X.K γ (fun _ _ _ _ => False) (den P cond).t) := fun s H Cc cl fp => by
      split at h8
      · split at h8
        · refine ⟨fun pins s σ H Q I ⟨μ, ρ, S, s1, q⟩ => pts_nil.run pins s σ H Q I ?_⟩
          exact q.here s1 rfl
        · cases h8
      · exact pts_one ((hcond (good_blk G scope s H Cc cl fp)).t _ h8)
      · cases h8
    refine ⟨el, t, it, ifs, scope, pos, tI X.K γ W (den P src).i, gT X.K tg, tT X.K γ (fun _ _ _ _ => False) (den P cond).t, tE X.K γ (fun _ _ _ _ => False) (den P elt).v, rfl, h1, hsrc.i _ t h2, by rw [G.N, G.sc]; exact blkOk_by h4,
      fun s H Cc cl fp => pg_all (good_blk G scope s H Cc cl fp) tg t h6, pts, fun s H Cc cl fp => (helt (good_blk G scope s H Cc cl fp)).e _ h9, hset, fun σ H Q ⟨μ, ρ, S, s, q⟩ => ?_⟩
    rw [hown]
    refine ⟨μ, ρ, S, s, (PostR.bind (rel := Wk X.K) q).imp fun J H1 ⟨μ1, S1, w, le1, s1, hw, q1⟩ D hD => ?_⟩
    have s2 := s1.alloc (c := .lst []) (o := .lst []) hD ⟨[], upd_same, .nil⟩
    have le2 : Le X.K μ1 H1 (μ1 ++ [D]) (upd H1 D (.lst [])) := le_newP hD
    refine ⟨fun i m Hh => m = w.ds.length - i ∧ ∃ μ' S', Le X.K (μ1 ++ [D]) (upd H1 D (.lst [])) μ' Hh ∧ Sim X.K μ' σ Hh ρ S' ∧ PostR X.K γ W (relV X.K) μ' Hh σ ρ ((lcL S1.length (ckS w.lk) (lcF own tg (den P cond).t (den P elt).v ρ) (w.ds.drop i) S').bind fun _ S4 => .ok (.ref S1.length) S4) Q,
      ⟨_, rfl, μ1 ++ [D], S1 ++ [.lst []], .refl, s2, by rw [List.drop_zero]; exact PostR.base le2 q1⟩, ?_⟩
    rintro i m Hh ⟨rfl, μ', S', le', s', q'⟩
    have hD' : μ'[S1.length]? = some D := le'.at (s1.ref D)
    cases hd : w.ds[i]? with
    | none =>
      rw [List.drop_eq_nil_iff.mpr (List.getElem?_eq_none_iff.mp hd)] at q'
      obtain ⟨hck, q2⟩ := lc_turn q'
      obtain ⟨h10, _⟩ := hw μ' σ Hh ρ S' i (le2.trans le') s' hck
      exact .inl ⟨h10 hd, q2.here s' (.ref hD')⟩
    | some d =>
      rw [drop_at hd] at q'
      obtain ⟨hck, q2⟩ := lc_turn q'
      obtain ⟨_, h11⟩ := hw μ' σ Hh ρ S' i (le2.trans le') s' hck
      obtain ⟨hgo, hy⟩ := h11 d hd
      refine .inr ⟨hgo, fun H'' => ∃ m', m' < w.ds.length - i ∧ m' = w.ds.length - (i + 1) ∧ ∃ μ' S', Le X.K (μ1 ++ [D]) (upd H1 D (.lst [])) μ' H'' ∧ Sim X.K μ' σ H'' ρ S' ∧ PostR X.K γ W (relV X.K) μ' H'' σ ρ ((lcL S1.length (ckS w.lk) (lcF own tg (den P cond).t (den P elt).v ρ) (w.ds.drop (i + 1)) S').bind fun _ S4 => .ok (.ref S1.length) S4) Q,
        fun H'' ⟨m', a1, a2, a3⟩ => ⟨m', a1, a2, a3⟩, fun x H2 hx => ?_⟩
      have hlt : w.ds.length - (i + 1) < w.ds.length - i := by
        have := (List.getElem?_eq_some_iff.mp hd).1
        omega
      obtain ⟨μ2, le3, s3, rx⟩ := hy x H2 hx
      unfold lcF at q2
      cases ea : asgT tg d (wipeE ρ own) with
      | none => rw [ea] at q2; exact q2.elim
      | some ρ2 =>
        rw [ea] at q2
        refine ⟨μ2, wipeE ρ own, S', d, ρ2, ⟨RepE.wipe s3.e own, s3.s⟩, rx, ea, fun σ' s4 hs => ⟨wipe_same (by rw [s4.e.1, asg_len ea, wipeE_length, ← s'.e.1]) fun j hj => ?_, μ2, ρ2, S', s4, ?_⟩⟩
        · rw [hs j fun hm => hj (by simpa using List.all_eq_true.mp h7 j hm), wipe_out hj]
        · change PostR X.K γ W (relV X.K) μ' Hh σ ρ (((match ((den P cond).t ρ2 S').bind (fun b S2 => bif b then ((den P elt).v ρ2 S2).bind fun d S3 => .ok (some d) S3 else .ok none S2) with
            | .ok none S' => lcL S1.length (ckS w.lk) (lcF own tg (den P cond).t (den P elt).v ρ) (w.ds.drop (i + 1)) S'
            | .ok (some d) S' => match S'[S1.length]? with
              | some (.lst acc) => if acc.length < linesz then lcL S1.length (ckS w.lk) (lcF own tg (den P cond).t (den P elt).v ρ) (w.ds.drop (i + 1)) (S'.set S1.length (.lst (acc ++ [d]))) else .bad
              | _ => .bad
            | _ => .bad) : R Unit).bind fun _ S4 => .ok (.ref S1.length) S4) Q at q2
          cases ec : (den P cond).t ρ2 S' with
          | bad => rw [ec] at q2; exact q2.elim
          | exc c fs S2 => rw [ec] at q2; exact q2.elim
          | ok b S2 =>
            rw [ec] at q2
            intro μ3 H3 b' le4 s5 rb
            have e1 : b = b' := rb
            subst e1
            cases b with
            | false =>
              rw [if_neg Bool.false_ne_true]
              exact ⟨_, hlt, rfl, μ3, S2, (le'.trans le3).trans le4, ⟨(s'.e.mono le3).mono le4, s5.s⟩, q2.base (le3.trans le4)⟩
            | true =>
              rw [if_pos rfl]
              refine ⟨μ3, ρ2, S2, s5, ?_⟩
              change PostR X.K γ W (relV X.K) μ' Hh σ ρ (((match ((den P elt).v ρ2 S2).bind (fun d S3 => Ng.R.ok (some d) S3) with
                | .ok none S' => lcL S1.length (ckS w.lk) (lcF own tg (den P cond).t (den P elt).v ρ) (w.ds.drop (i + 1)) S'
                | .ok (some d) S' => match S'[S1.length]? with
                  | some (.lst acc) => if acc.length < linesz then lcL S1.length (ckS w.lk) (lcF own tg (den P cond).t (den P elt).v ρ) (w.ds.drop (i + 1)) (S'.set S1.length (.lst (acc ++ [d]))) else .bad
                  | _ => .bad
                | _ => .bad) : R Unit).bind fun _ S4 => .ok (.ref S1.length) S4) Q at q2
              cases ee : (den P elt).v ρ2 S2 with
              | bad => rw [ee] at q2; exact q2.elim
              | exc c fs S3 => rw [ee] at q2; exact q2.elim
              | ok y S3 =>
                rw [ee] at q2
                intro μ4 H4 yv le5 s6 ry
                have hD4 : μ4[S1.length]? = some D := le5.at (le4.at (le3.at hD'))
                change PostR X.K γ W (relV X.K) μ' Hh σ ρ (((match S3[S1.length]? with
                  | some (.lst acc) => if acc.length < linesz then lcL S1.length (ckS w.lk) (lcF own tg (den P cond).t (den P elt).v ρ) (w.ds.drop (i + 1)) (S3.set S1.length (.lst (acc ++ [y]))) else .bad
                  | _ => .bad) : R Unit).bind fun _ S4 => .ok (.ref S1.length) S4) Q at q2
                split at q2
                case h_2 => exact q2.elim
                case h_1 acc hacc =>
                  split at q2
                  case isFalse => exact q2.elim
                  case isTrue hz =>
                    obtain ⟨vs, h12, r12⟩ := s6.s.cell _ _ _ hacc hD4
                    have le6 := (le3.trans le4).trans le5
                    refine ⟨vs, h12, by rw [r12.length, ← linesz_eq]; exact hz, _, hlt, rfl, μ4, _, (le'.trans le6).trans (le_upd h12), ?_, q2.base (le6.trans (le_upd h12))⟩
                    have s7 : Sim X.K μ4 σ H4 ρ S3 := ⟨s'.e.mono le6, s6.s⟩
                    exact s7.write hacc hD4 h12 (r12.append (.cons ry .nil))
theorem snd_lc (G : Good X Γ γ W P) (own : List Nat) {tg src cond elt : E} (hsrc : Snd X γ W (den P src) (chk src Γ))
    (hcond : ∀ {X : Cx} {Γ : Gam} {W : WX}, Good X Γ γ W P → Snd X γ W (den P cond) (chk cond Γ)) (helt : ∀ {X : Cx} {Γ : Gam} {W : WX}, Good X Γ γ W P → Snd X γ W (den P elt) (chk elt Γ)) :
    Snd X γ W (den P (.lc own tg src cond elt)) (chk (.lc own tg src cond elt) Γ) := by
  refine snd_ofV fun x h => ?_
  obtain ⟨el, t, it, ifs, scope, pos, wi, g, tt, te, rfl, h1, L⟩ := lc_parts G own hsrc hcond helt h
  exact ⟨pe_imp (pe_lc (G.calm h1) G.nd L.hi L.ok L.hg L.ht L.he L.hs) L.imp, fun _ => rfl, fun _ _ _ z => nomatch z⟩
theorem thenU_some {K : PySem.W.Frag} {μ : Mu} {H : Hp} {σ : L2.St} {ρ : Env} {n : Nat} {r : R Unit} {k : Store → R Unit} {Q : VK} (h : PostR K γ W (relV K) μ H σ ρ ((thenU r k).bind fun _ S4 => .ok (.ref n) S4) Q) :
    ∃ S', r = .ok () S' ∧ PostR K γ W (relV K) μ H σ ρ ((k S').bind fun _ S4 => .ok (.ref n) S4) Q := by
  cases r with
  | ok a S' => exact ⟨S', rfl, h⟩
  | exc => exact h.elim
  | bad => exact h.elim
/-- the second clause's turns, then the rest -/
def lcK (n : Nat) (ck : Store → Bool) (f : D → Store → R (Option D)) (k : Store → R Unit) (ds : List D) (S : Store) : R D := (thenU (lcL n ck f ds S) k).bind fun _ S4 => .ok (.ref n) S4
/-- what a comprehension of two clauses brings -/
structure Lc2Parts (X : Cx) (γ : Nat → Value) (W : WX) (v : Env → Store → R D) (el t it t2 it2 : Expr) (scope : Scope) (own : List (Str × Nat)) (own2 : List Nat) (wi : TI) (g : TG) (wi1 : TI) (g1 : TG) (te : TE) : Prop where
  hi : PI X t it wi
  ok : BlkOk X.N X.env.scope scope own
  hv : ∀ i ∈ own2, i ∈ own.map (·.2)
  hg : ∀ (s : Shared) (H : Hp) (Cc : Addr) (cl : List (Str × Addr)) (fp : List Addr), PG (X.blk s H scope (compEnvC scope cl Cc X.env) fp) t g
  hi1 : ∀ (s : Shared) (H : Hp) (Cc : Addr) (cl : List (Str × Addr)) (fp : List Addr), PI (X.blk s H scope (compEnvC scope cl Cc X.env) fp) t2 it2 wi1
  hg1 : ∀ (s : Shared) (H : Hp) (Cc : Addr) (cl : List (Str × Addr)) (fp : List Addr), PG (X.blk s H scope (compEnvC scope cl Cc X.env) fp) t2 g1
  he : ∀ (s : Shared) (H : Hp) (Cc : Addr) (cl : List (Str × Addr)) (fp : List Addr), PE (X.blk s H scope (compEnvC scope cl Cc X.env) fp) el te
  hs : ∀ x, foldedSetIterable it X.env x = pure x
  hs1 : ∀ env x, foldedSetIterable it2 env x = pure x
  imp : ∀ σ H Q, tE X.K γ W v σ H Q → tLc2 wi g (fun _ H Q => Q true H) wi1 g1 (fun _ H Q => Q true H) te (own.map (·.2)) own2 σ H Q
theorem lc2_parts (G : Good X Γ γ W P) (own own2 : List Nat) {tg src tg2 src2 elt : E} (hsrc : Snd X γ W (den P src) (chk src Γ))
    (hsrc2 : ∀ {X : Cx} {Γ : Gam} {W : WX}, Good X Γ γ W P → Snd X γ W (den P src2) (chk src2 Γ)) (helt : ∀ {X : Cx} {Γ : Gam} {W : WX}, Good X Γ γ W P → Snd X γ W (den P elt) (chk elt Γ)) {x : Expr} (h : (chk (.lc2 own own2 tg src tg2 src2 elt) Γ).e x = true) :
    ∃ el t it t2 it2 scope pos wi g wi1 g1 te, x = .ListComp el [⟨t, it, [], 0⟩, ⟨t2, it2, [], 0⟩] scope pos ∧ Γ.calm = true ∧ Lc2Parts X γ W (den P (.lc2 own own2 tg src tg2 src2 elt)).v el t it t2 it2 scope (ownOf Γ.N own) own2 wi g wi1 g1 te := by
  simp only [chk, Ck.ofE] at h
  split at h
  case h_2 => cases h
  case h_1 el t it t2 it2 scope pos =>
    obtain ⟨g0, g13⟩ := band h
    obtain ⟨g0, g12⟩ := band g0
    obtain ⟨g0, g11⟩ := band g0
    obtain ⟨g0, g10⟩ := band g0
    obtain ⟨g0, g9⟩ := band g0
    obtain ⟨g0, g8⟩ := band g0
    obtain ⟨g0, g7⟩ := band g0
    obtain ⟨g0, g6⟩ := band g0
    obtain ⟨g0, g5⟩ := band g0
    obtain ⟨g0, g4⟩ := band g0
    obtain ⟨g0, g3⟩ := band g0
    obtain ⟨g1, g2⟩ := band g0
    clear h g0
    have hown := of_decide_eq_true g5
    have hset : ∀ x, foldedSetIterable it X.env x = pure x := fun x => by
      cases it <;> first | rfl | simp [isSet] at g3
    have hset2 : ∀ env x, foldedSetIterable it2 env x = pure x := fun env x => by
      cases it2 <;> first | rfl | simp [isSet] at g9
    refine ⟨el, t, it, t2, it2, scope, pos, tI X.K γ W (den P src).i, gT X.K tg, tI X.K γ (fun _ _ _ _ => False) (den P src2).i, gT X.K tg2, tE X.K γ (fun _ _ _ _ => False) (den P elt).v, rfl, g1, hsrc.i _ t g2, by rw [G.N, G.sc]; exact blkOk_by g4, (fun i hi => by rw [hown]; simpa using List.all_eq_true.mp g12 i hi),
      (fun s H Cc cl fp => pg_all (good_blk G scope s H Cc cl fp) tg t g6), (fun s H Cc cl fp => (hsrc2 (good_blk G scope s H Cc cl fp)).i _ t2 g8), (fun s H Cc cl fp => pg_all (good_blk G scope s H Cc cl fp) tg2 t2 g10),
      (fun s H Cc cl fp => (helt (good_blk G scope s H Cc cl fp)).e _ g13), hset, hset2, fun σ H Q ⟨μ, ρ, S, s, q⟩ => ?_⟩
    rw [hown]
    refine ⟨μ, ρ, S, s, (PostR.bind (rel := Wk X.K) q).imp fun J H1 ⟨μ1, S1, w, le1, s1, hw, q1⟩ D hD => ?_⟩
    have s2 := s1.alloc (c := .lst []) (o := .lst []) hD ⟨[], upd_same, .nil⟩
    have le2 : Le X.K μ1 H1 (μ1 ++ [D]) (upd H1 D (.lst [])) := le_newP hD
    refine ⟨fun i m Hh => m = w.ds.length - i ∧ ∃ μ' S', Le X.K (μ1 ++ [D]) (upd H1 D (.lst [])) μ' Hh ∧ Sim X.K μ' σ Hh ρ S' ∧ PostR X.K γ W (relV X.K) μ' Hh σ ρ ((lc2L (ckS w.lk) (lc2G S1.length own own2 tg tg2 (den P src2).i (den P elt).v ρ) (w.ds.drop i) S').bind fun _ S4 => .ok (.ref S1.length) S4) Q,
      ⟨_, rfl, μ1 ++ [D], S1 ++ [.lst []], .refl, s2, by rw [List.drop_zero]; exact PostR.base le2 q1⟩, ?_⟩
    rintro i m Hh ⟨rfl, μ', S', le', s', q'⟩
    have hD' : μ'[S1.length]? = some D := le'.at (s1.ref D)
    cases hd : w.ds[i]? with
    | none =>
      rw [List.drop_eq_nil_iff.mpr (List.getElem?_eq_none_iff.mp hd)] at q'
      obtain ⟨hck, q2⟩ := lc_turn q'
      obtain ⟨h10, _⟩ := hw μ' σ Hh ρ S' i (le2.trans le') s' hck
      exact .inl ⟨h10 hd, q2.here s' (.ref hD')⟩
    | some d =>
      rw [drop_at hd] at q'
      obtain ⟨hck, q2⟩ := lc_turn q'
      obtain ⟨_, h11⟩ := hw μ' σ Hh ρ S' i (le2.trans le') s' hck
      obtain ⟨hgo, hy⟩ := h11 d hd
      have hlt : w.ds.length - (i + 1) < w.ds.length - i := by
        have := (List.getElem?_eq_some_iff.mp hd).1
        omega
      refine .inr ⟨hgo, fun H'' => ∃ m', m' < w.ds.length - i ∧ m' = w.ds.length - (i + 1) ∧ ∃ μ' S', Le X.K (μ1 ++ [D]) (upd H1 D (.lst [])) μ' H'' ∧ Sim X.K μ' σ H'' ρ S' ∧ PostR X.K γ W (relV X.K) μ' H'' σ ρ ((lc2L (ckS w.lk) (lc2G S1.length own own2 tg tg2 (den P src2).i (den P elt).v ρ) (w.ds.drop (i + 1)) S').bind fun _ S4 => .ok (.ref S1.length) S4) Q,
        fun H'' ⟨m', a1, a2, a3⟩ => ⟨m', a1, a2, a3⟩, fun x H2 hx => ?_⟩
      obtain ⟨μ2, le3, s3, rx⟩ := hy x H2 hx
      generalize hk : lc2L (ckS w.lk) (lc2G S1.length own own2 tg tg2 (den P src2).i (den P elt).v ρ) (w.ds.drop (i + 1)) = kk at q2 ⊢
      obtain ⟨S9, e9, _⟩ := thenU_some q2
      unfold lc2G at q2 e9
      cases ea : asgT tg d (wipeE ρ own) with
      | none => rw [ea] at e9; cases e9
      | some ρ2 =>
        rw [ea] at q2 e9
        change lc2F S1.length own2 tg2 (den P src2).i (den P elt).v ρ2 S' = _ at e9
        change PostR X.K γ W (relV X.K) μ' Hh σ ρ ((thenU (lc2F S1.length own2 tg2 (den P src2).i (den P elt).v ρ2 S') kk).bind fun _ S4 => .ok (.ref S1.length) S4) Q at q2
        refine ⟨μ2, wipeE ρ own, S', d, ρ2, ⟨RepE.wipe s3.e own, s3.s⟩, rx, ea, fun σ2 s4 hs => ⟨wipe_same (by rw [s4.e.1, asg_len ea, wipeE_length, ← s'.e.1]) fun j hj => ?_, ?_⟩⟩
        · rw [hs j fun hm => hj (by simpa using List.all_eq_true.mp g7 j hm), wipe_out hj]
        · show if (true : Bool) = true then _ else _
          rw [if_pos rfl]
          refine ⟨μ2, ρ2, S', s4, ?_⟩
          cases ec : (den P src2).i ρ2 S' with
          | bad =>
            rw [show lc2F S1.length own2 tg2 (den P src2).i (den P elt).v ρ2 S' = .bad from by unfold lc2F; rw [ec]; rfl] at e9
            cases e9
          | exc c fs S2 =>
            rw [show lc2F S1.length own2 tg2 (den P src2).i (den P elt).v ρ2 S' = .exc c fs S2 from by unfold lc2F; rw [ec]; rfl] at e9
            cases e9
          | ok w1 S2 =>
            rw [show lc2F S1.length own2 tg2 (den P src2).i (den P elt).v ρ2 S' = lcL S1.length (ckS w1.lk) (lcF own2 tg2 (fun _ S => .ok true S) (den P elt).v ρ2) w1.ds S2 from by unfold lc2F; rw [ec]; rfl] at q2
            change PostR X.K γ W (relV X.K) μ' Hh σ ρ (lcK S1.length (ckS w1.lk) (lcF own2 tg2 (fun _ S => .ok true S) (den P elt).v ρ2) kk w1.ds S2) Q at q2
            intro μ3 H3 J1 le4 s5 hw1
            refine ⟨fun j k Hj => k = w1.ds.length - j ∧ ∃ μ' S', Le X.K μ3 H3 μ' Hj ∧ RepS X.K Hj μ' S' ∧ PostR X.K γ W (relV X.K) μ' Hj σ ρ (lcK S1.length (ckS w1.lk) (lcF own2 tg2 (fun _ S => .ok true S) (den P elt).v ρ2) kk (w1.ds.drop j) S') Q,
              ⟨_, rfl, μ3, S2, .refl, s5.s, by rw [List.drop_zero]; exact q2.base (le3.trans le4)⟩, ?_⟩
            rintro j k Hj ⟨rfl, μ4, S4, le5, r4, q4⟩
            have leA := (le3.trans le4).trans le5
            have sj : Sim X.K μ4 σ Hj ρ S4 := ⟨s'.e.mono leA, r4⟩
            have hD4 : μ4[S1.length]? = some D := leA.at hD'
            obtain ⟨S8, e8, _⟩ := thenU_some q4
            cases hd1 : w1.ds[j]? with
            | none =>
              rw [List.drop_eq_nil_iff.mpr (List.getElem?_eq_none_iff.mp hd1)] at q4 e8
              have hck1 : ckS w1.lk S4 = true := by
                cases h : ckS w1.lk S4 with
                | true => rfl
                | false => unfold lcL at e8; rw [h] at e8; cases e8
              have q5 : PostR X.K γ W (relV X.K) μ4 Hj σ ρ ((kk S4).bind fun _ S4 => .ok (.ref S1.length) S4) Q := by
                unfold lcK lcL at q4
                rw [hck1] at q4
                exact q4
              obtain ⟨h12, _⟩ := hw1 μ4 σ Hj ρ S4 j le5 sj hck1
              exact .inl ⟨h12 hd1, _, hlt, rfl, μ4, S4, le'.trans leA, sj, q5⟩
            | some d1 =>
              rw [drop_at hd1] at q4 e8
              have hck1 : ckS w1.lk S4 = true := by
                cases h : ckS w1.lk S4 with
                | true => rfl
                | false => unfold lcL at e8; rw [h] at e8; cases e8
              obtain ⟨_, h13⟩ := hw1 μ4 σ Hj ρ S4 j le5 sj hck1
              obtain ⟨hgo1, hy1⟩ := h13 d1 hd1
              have hlt1 : w1.ds.length - (j + 1) < w1.ds.length - j := by
                have := (List.getElem?_eq_some_iff.mp hd1).1
                omega
              refine .inr ⟨hgo1, fun Hn => ∃ m', m' < w1.ds.length - j ∧ m' = w1.ds.length - (j + 1) ∧ ∃ μ' S', Le X.K μ3 H3 μ' Hn ∧ RepS X.K Hn μ' S' ∧ PostR X.K γ W (relV X.K) μ' Hn σ ρ (lcK S1.length (ckS w1.lk) (lcF own2 tg2 (fun _ S => .ok true S) (den P elt).v ρ2) kk (w1.ds.drop (j + 1)) S') Q,
                fun Hn ⟨m', a1, a2, a3⟩ => ⟨m', a1, a2, a3⟩, fun x1 H5 hx1 => ?_⟩
              obtain ⟨μ5, le6, s6, rx1⟩ := hy1 x1 H5 hx1
              unfold lcL at e8
              rw [hck1, cond_true] at e8
              unfold lcK lcL at q4
              rw [hck1, cond_true] at q4
              unfold lcF at q4 e8
              cases ea1 : asgT tg2 d1 (wipeE ρ2 own2) with
              | none => rw [ea1] at e8; cases e8
              | some ρ3 =>
                rw [ea1] at q4 e8
                have sw : Sim X.K μ5 (wipe σ2 own2) H5 (wipeE ρ2 own2) S4 := ⟨RepE.wipe ((s5.e.mono le5).mono le6) own2, s6.s⟩
                refine ⟨μ5, wipeE ρ2 own2, S4, d1, ρ3, sw, rx1, ea1, fun σ3 s7 hs3 => ⟨wipe_same (by rw [s7.e.1, asg_len ea1, wipeE_length, ← s5.e.1]) fun j' hj' => ?_, ?_⟩⟩
                · rw [hs3 j' fun hm => hj' (by simpa using List.all_eq_true.mp g11 j' hm), wipe_out hj']
                · show if (true : Bool) = true then _ else _
                  rw [if_pos rfl]
                  refine ⟨μ5, ρ3, S4, s7, ?_⟩
                  cases ee : (den P elt).v ρ3 S4 with
                  | bad => simp only [R.bind, ee, cond_true] at e8; cases e8
                  | exc c fs S3 => simp only [R.bind, ee, cond_true] at e8; cases e8
                  | ok y S3 =>
                    simp only [R.bind, ee, cond_true] at e8 q4
                    intro μ6 H6 yv le7 s8 ry
                    have hD6 : μ6[S1.length]? = some D := le7.at (le6.at hD4)
                    split at e8
                    case h_2 => cases e8
                    case h_1 acc hacc =>
                      split at e8
                      case isFalse => cases e8
                      case isTrue hz =>
                        obtain ⟨vs, h14, r14⟩ := s8.s.cell _ _ _ hacc hD6
                        have leB := le6.trans le7
                        refine ⟨vs, h14, by rw [r14.length, ← linesz_eq]; exact hz, _, hlt1, rfl, μ6, _, (le5.trans leB).trans (le_upd h14), s8.s.write hacc hD6 h14 (r14.append (.cons ry .nil)), ?_⟩
                        have q5 := PostR.base (leB.trans (le_upd (o := .lst (vs ++ [yv])) h14)) q4
                        rw [hacc] at q5
                        simp only [if_pos hz] at q5
                        exact q5
theorem snd_lc2 (G : Good X Γ γ W P) (own own2 : List Nat) {tg src tg2 src2 elt : E} (hsrc : Snd X γ W (den P src) (chk src Γ))
    (hsrc2 : ∀ {X : Cx} {Γ : Gam} {W : WX}, Good X Γ γ W P → Snd X γ W (den P src2) (chk src2 Γ)) (helt : ∀ {X : Cx} {Γ : Gam} {W : WX}, Good X Γ γ W P → Snd X γ W (den P elt) (chk elt Γ)) :
    Snd X γ W (den P (.lc2 own own2 tg src tg2 src2 elt)) (chk (.lc2 own own2 tg src tg2 src2 elt) Γ) := by
  refine snd_ofV fun x h => ?_
  obtain ⟨el, t, it, t2, it2, scope, pos, wi, g, wi1, g1, te, rfl, h1, L⟩ := lc2_parts G own own2 hsrc hsrc2 helt h
  exact ⟨pe_imp (pe_lc2 (G.calm h1) G.nd L.hi L.ok L.hv L.hg (fun _ _ _ _ _ => pts_nil) L.hi1 L.hg1 (fun _ _ _ _ _ => pts_nil) L.he L.hs L.hs1) L.imp, fun _ => rfl, fun _ _ _ z => nomatch z⟩
/-- EVERY EXPRESSION -/
theorem snd_all : ∀ (e : E) {X : Cx} {Γ : Gam} {W : WX}, Good X Γ γ W P → Snd X γ W (den P e) (chk e Γ)
  | .var i, _, _, _, G => snd_var G i
  | .non, _, _, _, G => snd_lit fun x h => by
      split at h
      · exact ⟨⟨.non, pe_non, fun _ _ => .non⟩, fun _ => rfl, fun _ _ _ z => nomatch z⟩
      · cases h
  | .bl b, _, _, _, G => snd_lit fun x h => by
      split at h
      · have e := eq_of_beq h
        subst e
        exact ⟨⟨.bl b, pe_bl, fun _ _ => .bl b⟩, fun _ => rfl, fun _ _ _ z => nomatch z⟩
      · cases h
  | .int i, _, _, _, G => snd_lit fun x h => by
      split at h
      · have e := eq_of_beq h
        subst e
        exact ⟨⟨.int i, pe_int, fun _ _ => .int i⟩, fun _ => rfl, fun _ _ _ z => nomatch z⟩
      · cases h
  | .str s, _, _, _, G => snd_lit fun x h => by
      split at h
      · have e := of_decide_eq_true h
        subst e
        exact ⟨⟨.str s, pe_str, fun _ _ => .str s⟩, fun _ => rfl, fun _ _ _ z => nomatch z⟩
      · cases h
  | .glb y d, _, _, _, G => snd_glb G y d
  | .bin o a b, _, _, _, G => snd_bin o (snd_all a G) (snd_all b G)
  | .neg a, _, _, _, G => snd_neg (snd_all a G)
  | .cmp o a b, _, _, _, G => snd_cmp G o (snd_all a G) (snd_all b G)
  | .chain o1 o2 a b c, _, _, _, G => snd_chain G o1 o2 (snd_all a G) (snd_all b G) (snd_all c G)
  | .not a, _, _, _, G => snd_not (snd_all a G)
  | .and a b, _, _, _, G => snd_and (snd_all a G) (snd_all b G)
  | .or a b, _, _, _, G => snd_or (snd_all a G) (snd_all b G)
  | .ite c a b, _, _, _, G => snd_ite (snd_all c G) (snd_all a G) (snd_all b G)
  | .tup a, _, _, _, G => snd_tup (snd_all a G)
  | .lst a, _, _, _, G => snd_lst (snd_all a G)
  | .nil, _, _, _, _ => snd_nil
  | .cons a b, _, _, _, G => snd_cons (snd_all a G) (snd_all b G)
  | .ix a b, _, _, _, G => snd_ix G (snd_all a G) (snd_all b G)
  | .dd0, _, _, _, G => snd_dd0
  | .kdd ks vs, _, _, _, G => snd_kdd ks (snd_all vs G)
  | .pop0 o, _, _, _, G => snd_pop0 (snd_all o G)
  | .lk o e, _, _, _, G => snd_lk o (snd_all e G)
  | .dd1 k v, _, _, _, G => snd_dd1 G (snd_all k G) (snd_all v G)
  | .dd2 k v k2 v2, _, _, _, G => snd_dd2 G (snd_all k G) (snd_all v G) (snd_all k2 G) (snd_all v2 G)
  | .slc a l h, _, _, _, G => snd_slc (snd_all a G) (snd_all l G) (snd_all h G)
  | .isx a y tbl, _, _, _, G => snd_isx G y tbl (snd_all a G)
  | .call f a, _, _, _, G => snd_call G f (snd_all a G)
  | .bi f a, _, _, _, G => snd_bi G f (snd_all a G)
  | .me m b a, _, _, _, G => snd_me G m (snd_all b G) (snd_all a G)
  | .isi a ts m, _, _, _, G => snd_isi G ts m (snd_all a G)
  | .rng a, _, _, _, G => snd_rng G (snd_all a G)
  | .enm a, _, _, _, G => snd_enm G (snd_all a G)
  | .zp a, _, _, _, G => snd_zp G (snd_all a G)
  | .fjs a, _, _, _, G => snd_fjs (snd_all a G)
  | .fmt a, _, _, _, G => snd_fmt (snd_all a G)
  | .sm m o a, _, _, _, G => snd_sm m (snd_all o G) (snd_all a G)
  | .sm0 m o, _, _, _, G => snd_sm0 m (snd_all o G)
  | .gix y kvs a, _, _, _, G => snd_gix G y kvs (snd_all a G)
  | .gdx y kvs a, _, _, _, G => snd_gdx G y kvs (snd_all a G)
  | .gdin y kvs neg a, _, _, _, G => snd_gdin G y kvs neg (snd_all a G)
  | .bln a, _, _, _, G => snd_bln G (snd_all a G)
  | .lrv a, _, _, _, G => snd_lrv G (snd_all a G)
  | .itm _, _, _, _, _ => snd_no
  | .fld c f a, _, _, _, G => snd_fld G c f (snd_all a G)
  | .mth f c m b a, _, _, _, G => snd_mth G f c m (snd_all b G) (snd_all a G)
  | .lc2 own own2 tg src tg2 src2 elt, _, _, _, G => snd_lc2 G own own2 (snd_all src G) (snd_all src2) (snd_all elt)
  | .lc own tg src cond elt, _, _, _, G => snd_lc G own (snd_all src G) (snd_all cond) (snd_all elt)
end
end Ng

set_option Elab.async false
set_option linter.all false
set_option maxRecDepth 100000
set_option maxHeartbeats 4000000
/-! Statements: what the text must be; that the engine reads it. -/
namespace Ng
open PySem PySem.Spec PyProof.Rows L2

structure CkS where
  s : Stmt → Bool
  b : List Stmt → Bool
def CkS.ofS (f : Stmt → Bool) : CkS := { s := f, b := fun _ => false }
/-- neither a comprehension nor what else is stored in another way -/
def plainVal : Expr → Bool
  | .ListComp .. => false
  | .SetComp .. => false
  | .DictComp .. => false
  | _ => true
def isTup : Expr → Bool
  | .Tuple .. => true
  | .List .. => true
  | _ => false
def isLc : E → Bool
  | .lc .. => true
  | .lc2 .. => true
  | _ => false
/-- a comprehension bound to a local name on its own line -/
def lcSame (Γ : Gam) (x : Str) (px : Pos) : Expr → Bool
  | .ListComp _ _ scope pos => (match Γ.sc.kind with | .function => true | _ => false) && decide (Γ.sc.names.lookup x = some .local) && (px.line == pos.line) && !(scope.names.any fun (n, k) => n == x && (k == .local || k == .cell))
  | _ => false
def par2 (Γ : Gam) (ts vs : List Expr) : Bool := match ts, vs with
  | [.Name x px, .Name y py], [_, _] => decide (Γ.sc.names.lookup x = some .local) && decide (Γ.sc.names.lookup y = some .local) && (px.line == py.line) && decide (x ≠ y) && !(vs.all (foldedForSure 8)) && !(vs.all (constantsAlone 8)) && !(vs.any fun | .Starred .. => true | _ => false)
  | _, _ => false
def notLoc (sc : Scope) (ts : List Expr) : Bool := ts.any fun e => match e with
  | .Name id _ => !decide (sc.names.lookup id = some .local)
  | _ => true
/-- a tuple of constants -/
def fold2 : Expr → Bool
  | .Tuple vs _ _ => vs.all (foldedForSure 8)
  | _ => false
def asgC (Γ : Gam) (ckv : Ck) (cka : E → Ck) (tg e : E) : Stmt → Bool
  | .Assign [t] v _ => (match tg, t with
    | .var i, .Name x p => ckName Γ i x && ckv.e v && (plainVal v || (isLc e && lcSame Γ x p v))
    | .tup ts, .Tuple es _ _ => ckG Γ tg t && ckv.e v && plainVal v && (!(isTup v) || (decide (4 ≤ es.length) || notLoc Γ.sc es || fold2 v) || (match e, v with
      | .tup as, .Tuple vs _ _ => Γ.calm && (match Γ.sc.kind with | .function => true | _ => false) && par2 Γ es vs && (cka as).a vs
      | _, _ => false))
    | _, _ => false)
  | _ => false
def chkC : C → Gam → CkS
  | .skip, _ => { s := fun _ => false, b := fun x => match x with | [] => true | _ => false }
  | .seq a r, Γ => { s := fun _ => false, b := fun x => match x with | [] => false | st :: rest => (chkC a Γ).s st && (chkC r Γ).b rest }
  | .pass, _ => CkS.ofS fun x => match x with | .Pass _ => true | .Expr (.Constant (.str _) _ _) _ => true | _ => false
  | .ex e, Γ => CkS.ofS fun x => match x with | .Expr v _ => (chk e Γ).e v && plainVal v | _ => false
  | .asg tg e, Γ => CkS.ofS (asgC Γ (chk e Γ) (fun a => chk a Γ) tg e)
  | .any, _ => { s := fun _ => true, b := fun _ => true }
  | .asg2 i j e, Γ => CkS.ofS fun x => match x with | .Assign [.Name x _, .Name y _] v _ => ckName Γ i x && ckName Γ j y && (chk e Γ).e v | _ => false
  | .aug i o e, Γ => CkS.ofS fun x => match x with | .AugAssign (.Name x _) op v _ => ckName Γ i x && decide (op = opOf o) && (chk e Γ).e v | _ => false
  | .ret e, Γ => CkS.ofS fun x => match x with | .Return (some v) _ => (chk e Γ).e v | _ => false
  | .retN, _ => CkS.ofS fun x => match x with | .Return none _ => true | _ => false
  | .ite c a b, Γ => CkS.ofS fun x => match x with | .If t y z _ => (chk c Γ).e t && (chkC a Γ).b y && (chkC b Γ).b z | _ => false
  | .whl _ c b, Γ => CkS.ofS fun x => match x with | .While t y [] _ => (chk c Γ).e t && (chkC b Γ).b y | _ => false
  | .for tg it b, Γ => CkS.ofS fun x => match x with | .For t i y [] _ => Γ.calm && ckG Γ tg t && (chk it Γ).i i t && !(isSet i) && (chkC b Γ).b y | _ => false
  | .brk, _ => CkS.ofS fun x => match x with | .Break _ => true | _ => false
  | .cnt, _ => CkS.ofS fun x => match x with | .Continue _ => true | _ => false
  | .raise c, Γ => CkS.ofS fun x => match x with
    | .Raise (some (.Call (.Name x _) [.Constant (.str _) _ _] [] _)) none _ => Γ.calm && glX Γ x && nodbg x && decide (Γ.exs[c]? = some x)
    | _ => false
  | .fst c f o e, Γ => CkS.ofS fun x => match x with
    | .Assign [.Attribute ov x _] v _ => decide (x = f) && Γ.atr.contains (c, f) && (chk o Γ).e ov && (chk e Γ).e v && plainVal v
    | _ => false
  | .ist o i e, Γ => CkS.ofS fun x => match x with
    | .Assign [.Subscript ov iv _] v _ => (chk o Γ).e ov && (chk i Γ).e iv && (chk e Γ).e v && plainVal v
    | _ => false
  | .fst2 c f g o e, Γ => CkS.ofS fun x => match x with
    | .Assign [.Tuple [.Attribute ov x _, .Attribute ow y _] _ _] v _ => Γ.calm && decide (x = f) && decide (y = g) && Γ.atr.contains (c, f) && Γ.atr.contains (c, g) && (chk o Γ).e ov && (chk o Γ).e ow && (chk e Γ).e v && plainVal v && !(isTup v)
    | _ => false
  | .del o i, Γ => CkS.ofS fun x => match x with
    | .Delete [.Subscript ov iv _] _ => (chk o Γ).e ov && (chk i Γ).e iv
    | _ => false
  | .dsp i x tbl e as, Γ => { s := fun _ => false, b := fun st => match st with
    | [.Assign [.Name v _] (.Subscript (.Name y _) ei _) _, .Return (some (.Call (.Name v2 _) (a :: es) [] _)) _] => Γ.calm && decide (v2 = v) && ckName Γ i v && decide (y = x) && glX Γ y && nodbg y && decide (Γ.glb.lookup y = some (.f tbl)) && tbl.all (fun p => decide (Γ.fns[p.2.2]? = some (.fn p.2.1))) && (chk e Γ).e ei && (chk as Γ).a (a :: es) && nodbg v && visX Γ v
    | _ => false }
  | .tryAs b y tbl i s, Γ => CkS.ofS fun x => match x with
    | .Try body [.ExceptHandler (some (.Name z _)) (some n) (b₀ :: r) _] [] [] _ => !Γ.hot && decide (z = y) && glX Γ y && nodbg y && decide (Γ.isa.lookup y = some tbl) && decide (tbl.length ≤ Γ.exs.length) && decide (Γ.N[i]? = some n) && decide (Γ.sc.names.lookup n = some .local) && (chkC b Γ).b body && (chkC s Γ.suite).b (b₀ :: r)
    | _ => false
  | .tryOn b y tbl s, Γ => CkS.ofS fun x => match x with
    | .Try body [.ExceptHandler (some (.Name z _)) none (b₀ :: r) _] [] [] _ => !Γ.hot && decide (z = y) && glX Γ y && nodbg y && decide (Γ.isa.lookup y = some tbl) && decide (tbl.length ≤ Γ.exs.length) && (chkC b Γ).b body && (chkC s Γ.suite).b (b₀ :: r)
    | _ => false

section
variable (K : PySem.W.Frag) (γ : Nat → Value) (W : WX)
def PostO (μ : Mu) (H : Hp) (o : O) (D : Ends) : Prop :=
  match o with
  | .nx ρ' S' => ∀ μ' H' σ', Le K μ H μ' H' → Sim K μ' σ' H' ρ' S' → D.nx σ' H'
  | .bk ρ' S' => ∀ μ' H' σ', Le K μ H μ' H' → Sim K μ' σ' H' ρ' S' → D.bk σ' H'
  | .ct ρ' S' => ∀ μ' H' σ', Le K μ H μ' H' → Sim K μ' σ' H' ρ' S' → D.ct σ' H'
  | .ret d S' => ∀ μ' H' v, Le K μ H μ' H' → RepS K H' μ' S' → RepV K H' μ' d v → D.rt v H'
  | .exc c fs ρ' S' => ∀ μ' H' σ' dx, Le K μ H μ' H' → Sim K μ' σ' H' ρ' S' → XD K H' μ' fs dx → W (γ c) dx σ' H'
  | .bad => False
def sR (f : Env → Store → O) : TS := fun D σ H => ∃ μ ρ S, Sim K μ σ H ρ S ∧ PostO K γ W μ H (f ρ S) D
end
structure SndS (X : Cx) (γ : Nat → Value) (W : WX) (f : Env → Store → O) (ck : CkS) : Prop where
  s : ∀ st, ck.s st = true → PS X st (sR X.K γ W f)
  b : ∀ sts, ck.b sts = true → PSs X sts (sR X.K γ W f)
/-- what is known of an exception's class -/
def ExcF (K : PySem.W.Frag) (mg : Str → Option Value) (γ : Nat → Value) (c : Nat) (x : Str) : Prop :=
  ∃ C bmB B newId initId, γ c = .ref C ∧ ExcBaseFacts B newId initId bmB ∧ PySem.W.excIn K C bmB newId = true ∧ mg x = some (.ref C) ∧ PySem.W.keepIn K (.ref C) = true ∧
    PySem.W.subIn K (.ref C) (.type "BaseException") = some true ∧ PySem.W.typeIn K (.ref C) = some (.type "type") ∧ ExcC K C
structure GoodS (X : Cx) (Γ : Gam) (γ : Nat → Value) (W : WX) (P : Nat → List D → Store → R D) : Prop extends Good X Γ γ W P where
  own : PassesOwn (model X.prog X.w) X.A X.env X.xe
  stk : X.stack = X.env :: X.outer
  frm : X.env.frame = some X.env.locals
  exs : ∀ c x, Γ.exs[c]? = some x → ExcF X.K X.mg γ c x
section
variable {X : Cx} {γ : Nat → Value} {W : WX} {Γ : Gam} {P : Nat → List D → Store → R D} {K : PySem.W.Frag} {μ μ1 : Mu} {H H1 : Hp} {σ : L2.St} {ρ : Env} {S : Store}
theorem PostO.base {o : O} {D : Ends} (l : Le K μ H μ1 H1) (h : PostO K γ W μ H o D) : PostO K γ W μ1 H1 o D := by
  cases o with
  | nx => exact fun μ' H' s l' => h μ' H' s (l.trans l')
  | bk => exact fun μ' H' s l' => h μ' H' s (l.trans l')
  | ct => exact fun μ' H' s l' => h μ' H' s (l.trans l')
  | ret => exact fun μ' H' s l' => h μ' H' s (l.trans l')
  | exc => exact fun μ' H' s d l' => h μ' H' s d (l.trans l')
  | bad => exact h
theorem PostO.of {α β : Type} {rel : Mu → Hp → α → β → Prop} {r : R α} {k : α → Store → O} {D : Ends} (h : PostO K γ W μ H (O.of ρ r k) D) :
    PostR K γ W rel μ H σ ρ r fun b H1 => ∃ μ1 S1 a, r = .ok a S1 ∧ Le K μ H μ1 H1 ∧ Sim K μ1 σ H1 ρ S1 ∧ rel μ1 H1 a b ∧ PostO K γ W μ1 H1 (k a S1) D := by
  cases r with
  | ok a S' => exact fun μ' H' b l s rl => ⟨μ', S', a, rfl, l, s, rl, PostO.base l h⟩
  | exc c fs S' => exact fun μ' H' d l s x => h μ' H' σ d l s x
  | bad => exact h
theorem PostO.seq {o : O} {k : Env → Store → O} {D : Ends} (h : PostO K γ W μ H (o.seq k) D) :
    PostO K γ W μ H o { D with nx := fun σ' H' => ∃ μ' ρ' S', Le K μ H μ' H' ∧ Sim K μ' σ' H' ρ' S' ∧ PostO K γ W μ' H' (k ρ' S') D } := by
  cases o with
  | nx ρ' S' => exact fun μ' H' σ' l s => ⟨μ', ρ', S', l, s, PostO.base l h⟩
  | bk => exact h
  | ct => exact h
  | ret => exact h
  | exc => exact h
  | bad => exact h
theorem snd_ofS {f : Env → Store → O} {ck : Stmt → Bool} (h : ∀ st, ck st = true → PS X st (sR X.K γ W f)) : SndS X γ W f (CkS.ofS ck) := ⟨h, (fun _ h => nomatch h)⟩
/-! ### blocks, small statements -/
theorem ss_skip : SndS X γ W (run P .skip) (chkC .skip Γ) := by
  refine ⟨(fun _ h => nomatch h), fun sts h => ?_⟩
  cases sts with
  | nil => exact pss_imp pss_nil fun D σ H ⟨μ, ρ, S, s, q⟩ => q μ H σ .refl s
  | cons => cases h
theorem ss_seq {a b : C} (ha : SndS X γ W (run P a) (chkC a Γ)) (hb : SndS X γ W (run P b) (chkC b Γ)) : SndS X γ W (run P (.seq a b)) (chkC (.seq a b) Γ) := by
  refine ⟨(fun _ h => nomatch h), fun sts h => ?_⟩
  cases sts with
  | nil => cases h
  | cons st rest =>
    obtain ⟨h1, h2⟩ := band h
    refine pss_imp (pss_cons (ha.s _ h1) (hb.b _ h2)) fun D σ H ⟨μ, ρ, S, s, q⟩ => ?_
    refine ⟨μ, ρ, S, s, ?_⟩
    have q1 := PostO.seq q
    cases e : run P a ρ S with
    | nx ρ' S' =>
      rw [e] at q1
      exact fun μ' H' σ' l s => let ⟨μ2, ρ2, S2, _, s2, q2⟩ := q1 μ' H' σ' l s; ⟨μ2, ρ2, S2, s2, q2⟩
    | bk => rw [e] at q1; exact q1
    | ct => rw [e] at q1; exact q1
    | ret => rw [e] at q1; exact q1
    | exc => rw [e] at q1; exact q1
    | bad => rw [e] at q1; exact q1
theorem ss_pass : SndS X γ W (run P .pass) (chkC .pass Γ) := by
  refine snd_ofS fun st h => ?_
  split at h
  · exact ps_imp ps_pass fun D σ H ⟨μ, ρ, S, s, q⟩ => q μ H σ .refl s
  · exact ps_imp ps_doc fun D σ H ⟨μ, ρ, S, s, q⟩ => q μ H σ .refl s
  · cases h
theorem ss_brk : SndS X γ W (run P .brk) (chkC .brk Γ) := by
  refine snd_ofS fun st h => ?_
  split at h
  · exact ps_imp ps_break fun D σ H ⟨μ, ρ, S, s, q⟩ => q μ H σ .refl s
  · cases h
theorem ss_cnt : SndS X γ W (run P .cnt) (chkC .cnt Γ) := by
  refine snd_ofS fun st h => ?_
  split at h
  · exact ps_imp ps_continue fun D σ H ⟨μ, ρ, S, s, q⟩ => q μ H σ .refl s
  · cases h
theorem ss_ret (G : Good X Γ γ W P) (e : E) : SndS X γ W (run P (.ret e)) (chkC (.ret e) Γ) := by
  refine snd_ofS fun st h => ?_
  split at h
  · refine ps_imp (ps_ret ((snd_all e G).e _ h)) fun D σ H ⟨μ, ρ, S, s, q⟩ => ?_
    exact ⟨μ, ρ, S, s, (PostO.of q).imp fun v H1 ⟨μ1, S1, d, _, le1, s1, r1, q1⟩ => q1 μ1 H1 v .refl s1.s r1⟩
  · cases h
theorem ss_retN : SndS X γ W (run P .retN) (chkC .retN Γ) := by
  refine snd_ofS fun st h => ?_
  split at h
  · exact ps_imp ps_retN fun D σ H ⟨μ, ρ, S, s, q⟩ => q μ H .non .refl s.s .non
  · cases h
theorem sw_plain {v : Expr} (h : plainVal v = true) (t : Option Expr) (l : Nat) (env : PySem.Env) : swapsWith v t l env = pure false := by
  cases v <;> first | rfl | cases h
theorem ss_ex (G : Good X Γ γ W P) (e : E) : SndS X γ W (run P (.ex e)) (chkC (.ex e) Γ) := by
  refine snd_ofS fun st h => ?_
  split at h
  · obtain ⟨h1, h2⟩ := band h
    refine ps_imp (ps_expr ((snd_all e G).e _ h1) (sw_plain h2 _ _ _)) fun D σ H ⟨μ, ρ, S, s, q⟩ => ?_
    exact ⟨μ, ρ, S, s, (PostO.of q).imp fun v H1 ⟨μ1, S1, d, _, le1, s1, r1, q1⟩ => q1 μ1 H1 σ .refl s1⟩
  · cases h
theorem ss_ite (G : Good X Γ γ W P) (c : E) {a b : C} (ha : SndS X γ W (run P a) (chkC a Γ)) (hb : SndS X γ W (run P b) (chkC b Γ)) : SndS X γ W (run P (.ite c a b)) (chkC (.ite c a b) Γ) := by
  refine snd_ofS fun st h => ?_
  split at h
  · obtain ⟨h1, h3⟩ := band h
    obtain ⟨h1, h2⟩ := band h1
    refine ps_imp (ps_if ((snd_all c G).t _ h1) (ha.b _ h2) (hb.b _ h3)) fun D σ H ⟨μ, ρ, S, s, q⟩ => ?_
    refine ⟨μ, ρ, S, s, (PostO.of q).imp fun v H1 ⟨μ1, S1, d, _, le1, s1, r1, q1⟩ => ?_⟩
    have e1 : d = v := r1
    subst e1
    cases d with
    | true => rw [if_pos rfl]; exact ⟨μ1, ρ, S1, s1, q1⟩
    | false => rw [if_neg Bool.false_ne_true]; exact ⟨μ1, ρ, S1, s1, q1⟩
  · cases h
/-! ### stores -/
theorem aug_ok (o : B2) : OpR X (inplaceOp (opOf o)) (opV X.K γ W (augB o)) := by
  cases o with
  | add =>
    refine opR_imp (iop_add.or iop_add_str) fun x y H Q ⟨μ, σ, ρ, S, d, e, s, rx, ry, h⟩ => ?_
    unfold augB at h
    split at h <;> first | contradiction | (exfalso; exact h) | skip
    · cases rx; cases ry; exact .inl ⟨_, _, rfl, rfl, h.here s (.int _)⟩
    · cases rx; cases ry
      split at h
      case isTrue hz => exact .inr ⟨_, _, rfl, rfl, by rw [← linesz_eq]; exact hz, h.here s (.str _)⟩
      case isFalse => exact h.elim
  | sub =>
    refine opR_imp iop_sub fun x y H Q ⟨μ, σ, ρ, S, d, e, s, rx, ry, h⟩ => ?_
    unfold augB at h
    split at h <;> first | contradiction | (exfalso; exact h) | skip
    cases rx; cases ry; exact ⟨_, _, rfl, rfl, h.here s (.int _)⟩
  | _ =>
    intro pins s σ H x y v u Q I rx ry ⟨μ, σ', ρ, S, d, e, s, r1, r2, h⟩
    exfalso
    cases d <;> cases e <;> exact h
theorem ck_name (G : Good X Γ γ W P) {i : Nat} {x : Str} (h : ckName Γ i x = true) : X.N[i]? = some x ∧ Loc X.env.scope x ∧ (X.fn x = true ∨ X.env.scope.names.lookup x = some .local) := by
  obtain ⟨h1, h2⟩ := band h
  have hN : X.N[i]? = some x := by rw [G.N]; exact of_decide_eq_true h1
  have hs : X.env.scope.names = Γ.sc.names := by rw [G.sc]
  split at h2
  · rename_i e
    exact ⟨hN, .inl (by rw [hs]; exact e), .inr (by rw [hs]; exact e)⟩
  · rename_i e
    exact ⟨hN, .inr (by rw [hs]; exact e), .inl (G.fn x h2)⟩
  · cases h2
theorem ss_aug (G : Good X Γ γ W P) (i : Nat) (o : B2) (e : E) : SndS X γ W (run P (.aug i o e)) (chkC (.aug i o e) Γ) := by
  refine snd_ofS fun st h => ?_
  split at h
  · rename_i x p op v pos
    obtain ⟨h0, h3⟩ := band h
    obtain ⟨h1, h2⟩ := band h0
    have e1 := of_decide_eq_true h2
    obtain ⟨n1, n2, n3⟩ := ck_name G h1
    subst e1
    have ho : PIp X (opOf o) (opV X.K γ W (augB o)) := fun pins s σ H x y v u Q I r1 r2 h => aug_ok o pins s σ H x y v u Q I r1 r2 h
    refine ps_imp (ps_aug G.nd n1 n2 ((snd_all e G).e _ h3) ho n3) fun D σ H ⟨μ, ρ, S, s, q⟩ => ?_
    change PostO X.K γ W μ H (match ρ[i]? with
      | some (some x) => O.of ρ (ev P e ρ S) fun d S1 => O.of ρ (augB o x d S1) fun z S2 => .nx (ρ.set i (some z)) S2
      | _ => .bad) D at q
    split at q
    case h_2 => exact q.elim
    case h_1 x0 hx =>
      obtain ⟨v, hv, rv⟩ := s.e.2 i x0 hx
      refine ⟨v, hv, μ, ρ, S, s, (PostO.of q).imp fun y H1 ⟨μ1, S1, d, _, le1, s1, r1, q1⟩ => ?_⟩
      refine ⟨μ1, σ, ρ, S1, x0, d, s1, rv.mono le1, r1, (PostO.of q1).imp fun z H2 ⟨μ2, S2, d2, _, le2, s2, r2, q2⟩ => ?_⟩
      exact q2 μ2 H2 _ .refl ⟨s2.e.set r2 i, s2.s⟩
  · cases h
theorem sw_none1 {ts : List Expr} {k : Nat} {p : Pos} {v : Expr} {env : PySem.Env} (h : isTup v = false) : swappedStores [.Tuple ts k p] v env = pure none := by
  cases v <;> first | rfl | cases h
theorem sw_none2 {ts : List Expr} {k : Nat} {p : Pos} {v : Expr} {env : PySem.Env} (h : 4 ≤ ts.length) : swappedStores [.Tuple ts k p] v env = pure none := by
  have e : (!(ts.length == 2 || ts.length == 3)) = true := by
    have h2 : (ts.length == 2) = false := by simp; omega
    have h3 : (ts.length == 3) = false := by simp; omega
    rw [h2, h3]; rfl
  cases v <;> first | rfl | skip
  rename_i vs k2 p2
  simp only [swappedStores, e, Bool.true_or, if_true]
theorem fm_lt {env : PySem.Env} {line : Nat} : ∀ {ts : List Expr}, notLoc env.scope ts = true → (ts.filterMap fun
    | .Name id pos => if env.kindOf id == some .local && pos.line == line then some id else none
    | _ => none).length < ts.length
  | [], h => by simp [notLoc] at h
  | e :: r, h => by
    have hle := List.length_filterMap_le (fun
      | Expr.Name id pos => if env.kindOf id == some .local && pos.line == line then some id else none
      | _ => none) r
    rw [List.filterMap_cons]
    split
    · simp only [List.length_cons]; omega
    · rename_i b hb
      have h2 : notLoc env.scope r = true := by
        simp only [notLoc, List.any_cons, Bool.or_eq_true] at h
        rcases h with h | h
        · exfalso
          cases e <;> first | (cases hb; done) | skip
          rename_i id pos
          simp only [Bool.not_eq_true', decide_eq_false_iff_not] at h
          by_cases hc : (env.kindOf id == some NameKind.local && pos.line == line) = true
          · rw [Bool.and_eq_true] at hc
            exact h (eq_of_beq hc.1)
          · change (if (env.kindOf id == some NameKind.local && pos.line == line) = true then some id else none) = some b at hb
            rw [if_neg hc] at hb
            cases hb
        · exact h
      have := fm_lt (env := env) (line := line) h2
      simp only [List.length_cons]
      omega
theorem sw_none3 {ts : List Expr} {k : Nat} {p : Pos} {v : Expr} {env : PySem.Env} (h : notLoc env.scope ts = true) : swappedStores [.Tuple ts k p] v env = pure none := by
  cases v <;> first | rfl | skip
  all_goals
    rename_i vs k2 p2
    have hn := fm_lt (env := env) (line := (ts.head?.map (·.pos.line)).getD 0) h
    simp only [swappedStores]
    split
    · rfl
    · split
      · rfl
      · exact if_pos (by rw [Bool.or_eq_true]; exact .inl (bne_iff_ne.mpr (Nat.ne_of_lt hn)))
theorem sw_none4 {ts : List Expr} {k : Nat} {p : Pos} {v : Expr} {env : PySem.Env} (h : fold2 v = true) : swappedStores [.Tuple ts k p] v env = pure none := by
  cases v <;> first | (cases h; done) | skip
  rename_i vs k2 p2
  simp only [swappedStores]
  split
  · rfl
  · split
    · rfl
    · split
      · rfl
      · exact if_pos h
theorem par_some {x y : Str} {px py p p2 : Pos} {k k2 : Nat} {a b : Expr} {env : PySem.Env} (hk : env.scope.kind = .function) (hx : env.scope.names.lookup x = some .local) (hy : env.scope.names.lookup y = some .local) (hl : (px.line == py.line) = true) (hxy : x ≠ y)
    (h1 : ([a, b].all (foldedForSure 8)) = false) (h2 : ([a, b].all (constantsAlone 8)) = false) (h3 : ([a, b].any fun | .Starred .. => true | _ => false) = false) :
    swappedStores [.Tuple [.Name x px, .Name y py] k p] (.Tuple [a, b] k2 p2) env = pure (some [x, y]) := by
  have hl2 : px.line = py.line := eq_of_beq hl
  have e2 : (Option.map (fun (z : Expr) => z.pos.line) [Expr.Name x px, Expr.Name y py].head?).getD 0 = py.line := by
    show px.line = py.line
    exact hl2
  have e3 : ([x, y] : List Str).eraseDups.length = 2 := by
    have : (y == x) = false := by simpa using Ne.symm hxy
    simp [List.eraseDups_cons, this]
  have e4 : (env.blockKind != .function) = false := by
    unfold Env.blockKind
    rw [hk]; rfl
  have e5 : (y == x) = false := by simpa using Ne.symm hxy
  unfold swappedStores
  simp only [e4, e2]
  refine (if_neg (by simp)).trans ?_
  refine (if_neg (fun z => Bool.noConfusion (z.symm.trans h3))).trans ?_
  simp only [List.filterMap_cons, List.filterMap_nil, Env.kindOf, hx, hy, hl2]
  simp only [beq_self_eq_true, Bool.and_self, if_true]
  refine (if_neg (by rw [e3]; simp)).trans ?_
  refine (if_neg (fun z => Bool.noConfusion (z.symm.trans h1))).trans ?_
  refine (if_neg (fun z => Bool.noConfusion (z.symm.trans h2))).trans ?_
  rfl
theorem par2_of {es vs : List Expr} (h : par2 Γ es vs = true) : ∃ x px y py a b, es = [.Name x px, .Name y py] ∧ vs = [a, b] ∧ Γ.sc.names.lookup x = some .local ∧ Γ.sc.names.lookup y = some .local ∧ (px.line == py.line) = true ∧ x ≠ y ∧
    ([a, b].all (foldedForSure 8)) = false ∧ ([a, b].all (constantsAlone 8)) = false ∧ ([a, b].any fun | .Starred .. => true | _ => false) = false := by
  unfold par2 at h
  split at h
  case h_2 => cases h
  case h_1 =>
    obtain ⟨h, g7⟩ := band h
    obtain ⟨h, g6⟩ := band h
    obtain ⟨h, g5⟩ := band h
    obtain ⟨h, g4⟩ := band h
    obtain ⟨h, g3⟩ := band h
    obtain ⟨g1, g2⟩ := band h
    exact ⟨_, _, _, _, _, _, rfl, rfl, of_decide_eq_true g1, of_decide_eq_true g2, g3, of_decide_eq_true g4, (Bool.not_eq_true' _).mp g5, (Bool.not_eq_true' _).mp g6, (Bool.not_eq_true' _).mp g7⟩
theorem ckGs1 {ts : E} {x : Str} {px : Pos} {es : List Expr} (h : ckGs Γ ts (.Name x px :: es) = true) : ∃ i ts', ts = .cons (.var i) ts' ∧ ckName Γ i x = true ∧ ckGs Γ ts' es = true := by
  cases ts <;> first | (simp [ckGs] at h; done) | skip
  rename_i a r
  cases a <;> first | (simp [ckGs] at h; done) | skip
  obtain ⟨h1, h2⟩ := band h
  exact ⟨_, _, rfl, h1, h2⟩
theorem ckGs0 {ts : E} (h : ckGs Γ ts [] = true) : ts = .nil := by
  cases ts <;> first | rfl | (simp [ckGs] at h; done)
theorem ckGs2 {ts : E} {x y : Str} {px py : Pos} (h : ckGs Γ ts [.Name x px, .Name y py] = true) : ∃ i j, ts = .cons (.var i) (.cons (.var j) .nil) ∧ ckName Γ i x = true ∧ ckName Γ j y = true := by
  obtain ⟨i, t1, rfl, h1, h2⟩ := ckGs1 h
  obtain ⟨j, t2, rfl, h3, h4⟩ := ckGs1 h2
  rw [ckGs0 h4]
  exact ⟨i, j, rfl, h1, h3⟩
theorem ss_asg (G : Good X Γ γ W P) (tg e : E) : SndS X γ W (run P (.asg tg e)) (chkC (.asg tg e) Γ) := by
  refine snd_ofS fun st h => ?_
  unfold asgC at h
  split at h
  case h_2 => cases h
  case h_1 t v pos =>
    split at h
    · -- name = value
      rename_i i x p
      obtain ⟨h1, h3⟩ := band h
      obtain ⟨h1, h2⟩ := band h1
      obtain ⟨n1, n2, n3⟩ := ck_name G h1
      rw [Bool.or_eq_true] at h3
      rcases h3 with h3 | h3
      · refine ps_imp (ps_set G.nd n1 n2 ((snd_all e G).e _ h2) (sw_plain h3 _ _ _) n3) fun D σ H ⟨μ, ρ, S, s, q⟩ => ?_
        refine ⟨μ, ρ, S, s, (PostO.of q).imp fun v H1 ⟨μ1, S1, d, _, le1, s1, r1, q1⟩ => ?_⟩
        exact q1 μ1 H1 _ .refl ⟨s1.e.set r1 i, s1.s⟩
      · obtain ⟨h4, h5⟩ := band h3
        cases e <;> first | (cases h4; done) | skip
        · rename_i own tg src cond elt
          obtain ⟨el, t, it, ifs, scope, pos2, wi, g, tt, te, rfl, h1, L⟩ := lc_parts G own (snd_all src G) (snd_all cond) (snd_all elt) h2
          unfold lcSame at h5
          obtain ⟨h5, h9⟩ := band h5
          obtain ⟨h5, h8⟩ := band h5
          obtain ⟨h6, h7⟩ := band h5
          have hk : X.env.scope.kind = .function := by
            rw [G.sc]
            split at h6
            · assumption
            · cases h6
          have hloc : X.env.scope.names.lookup x = some .local := by rw [G.sc]; exact of_decide_eq_true h7
          refine ps_imp (ps_setLc (G.calm h1) G.nd n1 hloc (sw_true hk hloc h8 (by simpa using h9)) L.hi L.ok L.hg L.ht L.he L.hs) fun D σ H ⟨μ, ρ, S, s, q⟩ => ?_
          refine L.imp σ H _ ⟨μ, ρ, S, s, (PostO.of q).imp fun v H1 ⟨μ1, S1, d, _, le1, s1, r1, q1⟩ => ?_⟩
          exact q1 μ1 H1 _ .refl ⟨s1.e.set r1 i, s1.s⟩
        · rename_i own own2 tg src tg2 src2 elt
          obtain ⟨el, t, it, t2, it2, scope, pos2, wi, g, wi1, g1, te, rfl, h1, L⟩ := lc2_parts G own own2 (snd_all src G) (snd_all src2) (snd_all elt) h2
          unfold lcSame at h5
          obtain ⟨h5, h9⟩ := band h5
          obtain ⟨h5, h8⟩ := band h5
          obtain ⟨h6, h7⟩ := band h5
          have hk : X.env.scope.kind = .function := by
            rw [G.sc]
            split at h6
            · assumption
            · cases h6
          have hloc : X.env.scope.names.lookup x = some .local := by rw [G.sc]; exact of_decide_eq_true h7
          refine ps_imp (ps_setLc2 (G.calm h1) G.nd n1 hloc (sw_true hk hloc h8 (by simpa using h9)) L.hi L.ok L.hv L.hg (fun _ _ _ _ _ => pts_nil) L.hi1 L.hg1 (fun _ _ _ _ _ => pts_nil) L.he L.hs L.hs1) fun D σ H ⟨μ, ρ, S, s, q⟩ => ?_
          refine L.imp σ H _ ⟨μ, ρ, S, s, (PostO.of q).imp fun v H1 ⟨μ1, S1, d, _, le1, s1, r1, q1⟩ => ?_⟩
          exact q1 μ1 H1 _ .refl ⟨s1.e.set r1 i, s1.s⟩
    · -- a, b = value
      rename_i ts es kk p
      obtain ⟨h1, h4⟩ := band h
      obtain ⟨h1, h3⟩ := band h1
      obtain ⟨h1, h2⟩ := band h1
      have plain : swappedStores [.Tuple es kk p] v X.env = pure none → PS X (.Assign [.Tuple es kk p] v pos) (sR X.K γ W (run P (.asg (.tup ts) e))) := fun hw => by
        refine ps_imp (ps_asg ((snd_all e G).e _ h2) (pg_all G (.tup ts) _ h1) (show swapsWithSole [Expr.Tuple es kk p] v pos.line X.env = pure false from sw_plain h3 (some (Expr.Tuple es kk p)) pos.line X.env) hw) fun D σ H ⟨μ, ρ, S, s, q⟩ => ?_
        refine ⟨μ, ρ, S, s, (PostO.of q).imp fun v H1 ⟨μ1, S1, d, _, le1, s1, r1, q1⟩ => ?_⟩
        unfold asgO at q1
        split at q1
        case h_2 => exact q1.elim
        case h_1 ρ' ea => exact ⟨μ1, ρ, S1, d, ρ', s1, r1, ea, fun σ' s2 _ => q1 μ1 H1 σ' .refl s2⟩
      rw [Bool.or_eq_true, Bool.or_eq_true] at h4
      rcases h4 with (h4 | h4) | h4
      · exact plain (sw_none1 (by simpa using h4))
      · rw [Bool.or_eq_true, Bool.or_eq_true] at h4
        rcases h4 with (h4 | h4) | h4
        · exact plain (sw_none2 (of_decide_eq_true h4))
        · exact plain (sw_none3 (by rw [G.sc]; exact h4))
        · exact plain (sw_none4 h4)
      · split at h4
        case h_2 => cases h4
        case h_1 =>
          rename_i as vs k2 p2 _
          obtain ⟨h4, h8⟩ := band h4
          obtain ⟨h4, h7⟩ := band h4
          obtain ⟨h5, h6⟩ := band h4
          have hk : X.env.scope.kind = .function := by
            rw [G.sc]
            split at h6
            · assumption
            · cases h6
          obtain ⟨x, px, y, py, a, b, rfl, rfl, g1, g2, g3, g4, g5, g6, g7⟩ := par2_of h7
          have hx : X.env.scope.names.lookup x = some .local := by rw [G.sc]; exact g1
          have hy : X.env.scope.names.lookup y = some .local := by rw [G.sc]; exact g2
          have hw := par_some (p := p) (p2 := p2) (k := kk) (k2 := k2) hk hx hy g3 g4 g5 g6 g7
          have h0 : ckG Γ (.tup ts) (.Tuple [.Name x px, .Name y py] kk p) = true := by assumption
          obtain ⟨i, j, rfl, c1, c2⟩ := ckGs2 (show ckGs Γ ts [.Name x px, .Name y py] = true from (band h0).2)
          obtain ⟨n1, _, _⟩ := ck_name G c1
          obtain ⟨m1, _, _⟩ := ck_name G c2
          have hij : i ≠ j := fun e => by
            subst e
            rw [n1] at m1
            exact g4 (Option.some.inj m1)
          have hsw : swapsWithSole [.Tuple [.Name x px, .Name y py] kk p] (.Tuple [a, b] k2 p2) pos.line X.env = pure false := rfl
          refine ps_imp (ps_par (G.calm h5) G.nd n1 m1 hij hx hy ((snd_all as G).a _ h8) hw hsw) fun D σ H ⟨μ, ρ, S, s, q⟩ => ?_
          change PostO X.K γ W μ H (O.of ρ (((den P as).a ρ S).bind tupR) fun d S1 => asgO _ d ρ S1) D at q
          refine ⟨μ, ρ, S, s, ?_⟩
          cases ee : (den P as).a ρ S with
          | bad => rw [ee] at q; exact q
          | exc c fs S1 => rw [ee] at q; exact fun μ' H' d l s x => q μ' H' σ d l s x
          | ok ds S1 =>
            rw [ee] at q
            change PostO X.K γ W μ H (O.of ρ (tupR ds S1) fun d S1 => asgO _ d ρ S1) D at q
            have hl := evs_len as _ h8 ee
            intro μ1 H1 vs le s1 r
            unfold tupR at q
            split at q
            case isFalse => exact q.elim
            case isTrue =>
              match ds, hl, r, q with
              | [d1, d2], _, r, q =>
                obtain ⟨v1, v2, rfl, r1, r2⟩ := vs2 r
                exact ⟨v1, v2, rfl, q μ1 H1 _ le ⟨(s1.e.set r1 i).set r2 j, s1.s⟩⟩
    · cases h
/-! ### loops -/
theorem ss_any : SndS X γ W (run P .any) (chkC .any Γ) :=
  ⟨fun st _ => ⟨fun pins s σ H D I ⟨μ, ρ, S, sm, q⟩ => False.elim q⟩, fun sts _ => ⟨fun pins s σ H D I ⟨μ, ρ, S, sm, q⟩ => False.elim q⟩⟩
theorem ss_asg2 (G : Good X Γ γ W P) (i j : Nat) (e : E) : SndS X γ W (run P (.asg2 i j e)) (chkC (.asg2 i j e) Γ) := by
  refine snd_ofS fun st h => ?_
  split at h
  case h_2 => cases h
  case h_1 x px y py v pos =>
    obtain ⟨h, hv⟩ := band h
    obtain ⟨hx, hy⟩ := band h
    obtain ⟨n1, n2, n3⟩ := ck_name G hx
    obtain ⟨m1, m2, m3⟩ := ck_name G hy
    refine ps_imp (ps_asg2 ((snd_all e G).e _ hv) (pg_name G.nd n1 n2 n3) (pg_name G.nd m1 m2 m3)) fun D σ H ⟨μ, ρ, S, s, q⟩ => ?_
    refine ⟨μ, ρ, S, s, (PostO.of q).imp fun v H1 ⟨μ1, S1, d, _, le1, s1, r1, q1⟩ => ?_⟩
    exact q1 μ1 H1 _ .refl ⟨(s1.e.set r1 i).set r1 j, s1.s⟩
theorem PostO.cond {b : Bool} {o : O} {D : Ends} (h : PostO K γ W μ H (bif b then o else .bad) D) : b = true ∧ PostO K γ W μ H o D := by
  cases b with
  | true => exact ⟨rfl, h⟩
  | false => exact h.elim
theorem ss_whl (G : GoodS X Γ γ W P) (n : Nat) (c : E) {b : C} (hb : SndS X γ W (run P b) (chkC b Γ)) : SndS X γ W (run P (.whl n c b)) (chkC (.whl n c b) Γ) := by
  refine snd_ofS fun st h => ?_
  split at h
  case h_2 => cases h
  case h_1 t y pos =>
    obtain ⟨h1, h2⟩ := band h
    refine ps_imp (ps_while G.own ((snd_all c G.toGood).t _ h1) (hb.b _ h2)) fun D σ H ⟨μ, ρ, S, s, q⟩ => ?_
    refine ⟨fun m σ' H' => ∃ μ' ρ' S', Sim X.K μ' σ' H' ρ' S' ∧ PostO X.K γ W μ' H' (whlL (tst P c) (run P b) m ρ' S') D, ⟨n, μ, ρ, S, s, q⟩, ?_⟩
    rintro m σ' H' ⟨μ', ρ', S', s', q'⟩
    cases m with
    | zero => exact q'.elim
    | succ m =>
      refine ⟨μ', ρ', S', s', (PostO.of q').imp fun v H1 ⟨μ1, S1, d, _, le1, s1, r1, q1⟩ => ?_⟩
      have e1 : d = v := r1
      subst e1
      cases d with
      | false =>
        rw [if_neg Bool.false_ne_true]
        exact q1 μ1 H1 σ' .refl s1
      | true =>
        rw [if_pos rfl]
        refine ⟨fun σ2 H2 => ∃ μ' ρ' S', Sim X.K μ' σ2 H2 ρ' S' ∧ PostO X.K γ W μ' H2 (whlL (tst P c) (run P b) m ρ' S') D, fun σ2 H2 z => ⟨m, Nat.lt_succ_self m, z⟩, μ1, ρ', S1, s1, ?_⟩
        change PostO X.K γ W μ1 H1 (match run P b ρ' S1 with
          | .nx ρ' S' => whlL (tst P c) (run P b) m ρ' S'
          | .ct ρ' S' => whlL (tst P c) (run P b) m ρ' S'
          | .bk ρ' S' => .nx ρ' S'
          | o => o) D at q1
        cases e : run P b ρ' S1 with
        | nx ρ2 S2 => rw [e] at q1; exact fun μ2 H2 σ2 l s2 => ⟨μ2, ρ2, S2, s2, q1.base l⟩
        | ct ρ2 S2 => rw [e] at q1; exact fun μ2 H2 σ2 l s2 => ⟨μ2, ρ2, S2, s2, q1.base l⟩
        | bk ρ2 S2 => rw [e] at q1; exact q1
        | ret => rw [e] at q1; exact q1
        | exc => rw [e] at q1; exact q1
        | bad => rw [e] at q1; exact q1
theorem ss_for (G : GoodS X Γ γ W P) (tg it : E) {b : C} (hb : SndS X γ W (run P b) (chkC b Γ)) : SndS X γ W (run P (.for tg it b)) (chkC (.for tg it b) Γ) := by
  refine snd_ofS fun st h => ?_
  split at h
  case h_2 => cases h
  case h_1 t i y pos =>
    obtain ⟨h4, h5⟩ := band h
    obtain ⟨g1, h4⟩ := band h4
    obtain ⟨g1, h3⟩ := band g1
    obtain ⟨h1, h2⟩ := band g1
    clear g1 h
    have hset : ∀ x, foldedSetIterable i X.env x = pure x := fun x => by
      cases i <;> first | rfl | simp [isSet] at h4
    refine ps_imp (ps_for G.own (G.calm h1) ((snd_all it G.toGood).i i t h3) (pg_all G.toGood tg t h2) (hb.b _ h5) hset) fun D σ H ⟨μ, ρ, S, s, q⟩ => ?_
    refine ⟨μ, ρ, S, s, (PostO.of q).imp fun J H1 ⟨μ1, S1, w, _, le1, s1, hw, q1⟩ => ?_⟩
    refine ⟨fun k m σ' H' => m = w.ds.length - k ∧ ∃ μ' ρ' S', Le X.K μ1 H1 μ' H' ∧ Sim X.K μ' σ' H' ρ' S' ∧ PostO X.K γ W μ' H' (forL (ckS w.lk) (fun x ρ S => (asgO tg x ρ S).seq (run P b)) (w.ds.drop k) ρ' S') D,
      ⟨_, rfl, μ1, ρ, S1, .refl, s1, by rw [List.drop_zero]; exact q1⟩, ?_⟩
    rintro k m σ' H' ⟨rfl, μ', ρ', S', le', s', q'⟩
    cases hd : w.ds[k]? with
    | none =>
      rw [List.drop_eq_nil_iff.mpr (List.getElem?_eq_none_iff.mp hd)] at q'
      obtain ⟨hck, q2⟩ := PostO.cond q'
      obtain ⟨h10, _⟩ := hw μ' σ' H' ρ' S' k le' s' hck
      exact .inl ⟨h10 hd, q2 μ' H' σ' .refl s'⟩
    | some d =>
      rw [drop_at hd] at q'
      obtain ⟨hck, q2⟩ := PostO.cond q'
      obtain ⟨_, h11⟩ := hw μ' σ' H' ρ' S' k le' s' hck
      obtain ⟨hgo, hy⟩ := h11 d hd
      have hlt : w.ds.length - (k + 1) < w.ds.length - k := by
        have := (List.getElem?_eq_some_iff.mp hd).1
        omega
      refine .inr ⟨hgo, fun σ2 H2 => ∃ μ' ρ' S', Le X.K μ1 H1 μ' H2 ∧ Sim X.K μ' σ2 H2 ρ' S' ∧ PostO X.K γ W μ' H2 (forL (ckS w.lk) (fun x ρ S => (asgO tg x ρ S).seq (run P b)) (w.ds.drop (k + 1)) ρ' S') D,
        fun σ2 H2 z => ⟨_, hlt, rfl, z⟩, fun x H2 hx => ?_⟩
      obtain ⟨μ2, le3, s3, rx⟩ := hy x H2 hx
      change PostO X.K γ W μ' H' (match (asgO tg d ρ' S').seq (run P b) with
          | .nx ρ' S' => forL (ckS w.lk) (fun x ρ S => (asgO tg x ρ S).seq (run P b)) (w.ds.drop (k + 1)) ρ' S'
          | .ct ρ' S' => forL (ckS w.lk) (fun x ρ S => (asgO tg x ρ S).seq (run P b)) (w.ds.drop (k + 1)) ρ' S'
          | .bk ρ' S' => .nx ρ' S'
          | o => o) D at q2
      cases ea : asgT tg d ρ' with
      | none => rw [show asgO tg d ρ' S' = .bad from by unfold asgO; rw [ea]] at q2; exact q2.elim
      | some ρ2 =>
        rw [show asgO tg d ρ' S' = .nx ρ2 S' from by unfold asgO; rw [ea]] at q2
        change PostO X.K γ W μ' H' (match run P b ρ2 S' with
          | .nx ρ' S' => forL (ckS w.lk) (fun x ρ S => (asgO tg x ρ S).seq (run P b)) (w.ds.drop (k + 1)) ρ' S'
          | .ct ρ' S' => forL (ckS w.lk) (fun x ρ S => (asgO tg x ρ S).seq (run P b)) (w.ds.drop (k + 1)) ρ' S'
          | .bk ρ' S' => .nx ρ' S'
          | o => o) D at q2
        refine ⟨μ2, ρ', S', d, ρ2, s3, rx, ea, fun σ2 s4 _ => ⟨μ2, ρ2, S', s4, ?_⟩⟩
        have q3 := PostO.base le3 q2
        cases e : run P b ρ2 S' with
        | nx ρ3 S3 => rw [e] at q3; exact fun μ3 H3 σ3 l s5 => ⟨μ3, ρ3, S3, (le'.trans le3).trans l, s5, q3.base l⟩
        | ct ρ3 S3 => rw [e] at q3; exact fun μ3 H3 σ3 l s5 => ⟨μ3, ρ3, S3, (le'.trans le3).trans l, s5, q3.base l⟩
        | bk ρ3 S3 => rw [e] at q3; exact q3
        | ret => rw [e] at q3; exact q3
        | exc => rw [e] at q3; exact q3
        | bad => rw [e] at q3; exact q3
theorem ss_fst (G : Good X Γ γ W P) (c f : Str) (o e : E) : SndS X γ W (run P (.fst c f o e)) (chkC (.fst c f o e) Γ) := by
  refine snd_ofS fun st h => ?_
  split at h
  case h_2 => cases h
  case h_1 ov x p v pos =>
    obtain ⟨h, h5⟩ := band h
    obtain ⟨h, h4⟩ := band h
    obtain ⟨h, h3⟩ := band h
    obtain ⟨h1, h2⟩ := band h
    have e1 := of_decide_eq_true h1
    subst e1
    obtain ⟨C, hc, cl, na⟩ := G.atr c x h2
    refine ps_imp (ps_fld ((snd_all o G).e _ h3) ((snd_all e G).e _ h4) (sw_plain h5 _ _ _)) fun D σ H ⟨μ, ρ, S, s, q⟩ => ?_
    refine ⟨μ, ρ, S, s, (PostO.of q).imp fun y H1 ⟨μ1, S1, d, _, le1, s1, r1, q1⟩ => ⟨μ1, ρ, S1, s1, (PostO.of q1).imp fun z H2 ⟨μ2, S2, d2, _, le2, s2, r2, q2⟩ => ?_⟩⟩
    unfold fstO at q2
    split at q2
    case h_2 => exact q2.elim
    case h_1 n =>
      split at q2
      case h_2 => exact q2.elim
      case h_1 fs hi =>
        split at q2
        case isFalse => exact q2.elim
        case isTrue hl =>
          obtain ⟨n', p, C2, dx, gs, e0, rfl, hS, hH, hc2, e3, r3, hm⟩ := s2.inst r2 hi
          cases e0
          have : C2 = C := by
            have := hc2.symm.trans hc
            cases this; rfl
          subst this
          have hlen : gs.length = fs.length := by
            have := congrArg List.length e3
            simpa using this
          refine ⟨p, C2, dx, gs, rfl, hH, cl, na, by rw [hlen]; exact hl, ?_⟩
          have nt : NT (.ins C2 dx gs) := ⟨(fun _ z => nomatch z), (fun _ _ z => nomatch z)⟩
          obtain ⟨p1, p2⟩ := put_rep (f := x) (RepV.mono le2 r1) e3 r3
          have le3 : Le X.K μ2 H2 μ2 (upd H2 p (.ins C2 dx (putF x y gs))) := le_updC hH nt
          exact q2 μ2 _ σ le3 ⟨s2.e.mono le3, s2.s.writeC hS hm hH nt rfl rfl ⟨_, upd_same, hc, p1, p2.mono le3⟩⟩
def gAtt (K : PySem.W.Frag) (to : TE) (f : Str) : TG := fun v σ H Q => to σ H fun x H1 => ∃ (a C dx : Addr) (fs : List (Str × V)), x = .ref a ∧ H1 a = some (.ins C dx fs) ∧ Cls K C ∧ NoAttr K C f ∧ fs.length < 1000 ∧ Q σ (upd H1 a (.ins C dx (putF f v fs)))
theorem pg_att {o : Expr} {f : Str} {pos : Pos} {to : TE} (ho : PE X o to) : PG X (.Attribute o f pos) (gAtt X.K to f) := by
  refine ⟨fun pins s σ H v u Q I r h => ?_⟩
  rw [assign_Attribute]
  refine wpAny_bind (wpAny_holding (thn (ho.run pins s σ H _ I h) fun ov s1 ⟨x, H1, I1, r1, a, C, dx, fs, ex, hH, cl, na, hl, q⟩ => ?_))
  subst ex
  obtain rfl : ov = Value.ref a := r1
  refine wpAny_bind (wpAny_standAt (wpAny_bind (wpAny_holding (setattr_ok I1 hH cl na hl r fun s' I' => wpAny_release ⟨σ, _, I', q⟩))))
theorem fld_of (G : Good X Γ γ W P) {c f : Str} (hat : Γ.atr.contains (c, f) = true) {d x : D} {y z : V} (s2 : Sim X.K μ σ H ρ S) (ry : RepV X.K H μ d y) (rz : RepV X.K H μ x z) (hb : fstO c f d x ρ S ≠ .bad) :
    ∃ p C dx gs S3, z = .ref p ∧ H p = some (.ins C dx gs) ∧ Cls X.K C ∧ NoAttr X.K C f ∧ gs.length < 1000 ∧ fstO c f d x ρ S = .nx ρ S3 ∧ Le X.K μ H μ (upd H p (.ins C dx (putF f y gs))) ∧ Sim X.K μ σ (upd H p (.ins C dx (putF f y gs))) ρ S3 := by
  obtain ⟨C, hc, cl, na⟩ := G.atr c f hat
  unfold fstO at hb ⊢
  split at hb
  case h_2 => exact absurd rfl hb
  case h_1 n =>
    split at hb
    case h_2 => exact absurd rfl hb
    case h_1 fs hi =>
      split at hb
      case isFalse => exact absurd rfl hb
      case isTrue hl =>
        obtain ⟨n', p, C2, dx, gs, e0, rfl, hS, hH, hc2, e3, r3, hm⟩ := s2.inst rz hi
        cases e0
        have : C2 = C := by
          have := hc2.symm.trans hc
          cases this; rfl
        subst this
        have hlen : gs.length = fs.length := by
          have := congrArg List.length e3
          simpa using this
        have nt : NT (.ins C2 dx gs) := ⟨(fun _ z => nomatch z), (fun _ _ z => nomatch z)⟩
        obtain ⟨p1, p2⟩ := put_rep (f := f) ry e3 r3
        have le3 : Le X.K μ H μ (upd H p (.ins C2 dx (putF f y gs))) := le_updC hH nt
        refine ⟨p, C2, dx, gs, S.set n (.ins c (putD f d fs)), rfl, hH, cl, na, by rw [hlen]; exact hl, ?_, le3, ⟨s2.e.mono le3, s2.s.writeC hS hm hH nt rfl rfl ⟨_, upd_same, hc, p1, p2.mono le3⟩⟩⟩
        simp only [hi, if_pos hl]
theorem ss_fst2 (G : Good X Γ γ W P) (c f g : Str) (o e : E) : SndS X γ W (run P (.fst2 c f g o e)) (chkC (.fst2 c f g o e) Γ) := by
  refine snd_ofS fun st h => ?_
  split at h
  case h_2 => cases h
  case h_1 ov x px ow y py kk pt v pos =>
    obtain ⟨h, h10⟩ := band h
    obtain ⟨h, h9⟩ := band h
    obtain ⟨h, h8⟩ := band h
    obtain ⟨h, h7⟩ := band h
    obtain ⟨h, h6⟩ := band h
    obtain ⟨h, h5⟩ := band h
    obtain ⟨h, h4⟩ := band h
    obtain ⟨h, h3⟩ := band h
    obtain ⟨h1, h2⟩ := band h
    have e1 := of_decide_eq_true h2
    subst e1
    have e2 := of_decide_eq_true h3
    subst e2
    have hpg : PG X (.Tuple [.Attribute ov x px, .Attribute ow y py] kk pt) (gTup X.K 2 (gCons (gAtt X.K (tE X.K γ W (den P o).v) x) (gCons (gAtt X.K (tE X.K γ W (den P o).v) y) gNil))) :=
      pg_tup (n := 2) (G.calm h1) (pgs_cons (pg_att ((snd_all o G).e _ h6)) (pgs_cons (pg_att ((snd_all o G).e _ h7)) pgs_nil)) rfl rfl
    refine ps_imp (ps_asg ((snd_all e G).e _ h8) hpg (show swapsWithSole [Expr.Tuple [.Attribute ov x px, .Attribute ow y py] kk pt] v pos.line X.env = pure false from sw_plain h9 (some (Expr.Tuple [.Attribute ov x px, .Attribute ow y py] kk pt)) pos.line X.env) (sw_none1 (by simpa using h10))) fun D σ H ⟨μ, ρ, S, s, q⟩ => ?_
    refine ⟨μ, ρ, S, s, (PostO.of q).imp fun u H1 ⟨μ1, S1, d, _, le1, s1, r1, q1⟩ => ?_⟩
    unfold fst2O at q1
    split at q1
    case h_2 => exact q1.elim
    case h_1 a b hq0 =>
      cases r1 with
      | tup ht rr =>
        cases rr with
        | cons ra rr =>
          cases rr with
          | cons rb rr =>
            cases rr
            refine ⟨_, _, rfl, ht, rfl, ?_⟩
            refine ⟨_, _, rfl, μ1, ρ, S1, s1, (PostO.of q1).imp fun z H2 ⟨μ2, S2, d2, _, le2, s2, r2, q2⟩ => ?_⟩
            have hnb : fstO c x a d2 ρ S2 ≠ .bad := fun e => by rw [e] at q2; exact q2.elim
            obtain ⟨p, C, dx, gs, S3, rfl, hH, cl, na, hl, ef, le3, s3⟩ := fld_of G h4 s2 (ra.mono le2) r2 hnb
            rw [ef] at q2
            refine ⟨p, C, dx, gs, rfl, hH, cl, na, hl, ?_⟩
            refine ⟨_, _, rfl, μ2, ρ, S3, s3, (PostO.of (PostO.base le3 q2)).imp fun w H4 ⟨μ4, S4, d4, _, le4, s4, r4, q4⟩ => ?_⟩
            have hnb2 : fstO c y b d4 ρ S4 ≠ .bad := fun e => by rw [e] at q4; exact q4.elim
            obtain ⟨p', C', dx', gs', S5, rfl, hH', cl', na', hl', ef', le5, s5⟩ := fld_of G h5 s4 (((rb.mono le2).mono le3).mono le4) r4 hnb2
            rw [ef'] at q4
            exact ⟨p', C', dx', gs', rfl, hH', cl', na', hl', rfl, q4 _ _ _ le5 s5⟩
theorem reps_set : ∀ {ds : List Ng.D} {vs : List V} {d : Ng.D} {v : V} (j : Nat), RepVs K H μ ds vs → RepV K H μ d v → RepVs K H μ (ds.set j d) (vs.set j v)
  | _, _, _, _, _, .nil, _ => .nil
  | _, _, _, _, 0, .cons _ rs, rv => .cons rv rs
  | _, _, _, _, j + 1, .cons r rs, rv => .cons r (reps_set j rs rv)
theorem set_or {X : Cx} {t t' : TSet} (h : PSet X t) (h' : PSet X t') : PSet X (fun o i v H Q => t o i v H Q ∨ t' o i v H Q) := by
  intro pins s σ H o i v ov iv u Q I ro ri rv q
  rcases q with q | q
  · exact h pins s σ H o i v ov iv u Q I ro ri rv q
  · exact h' pins s σ H o i v ov iv u Q I ro ri rv q
theorem set_dk_of {n : Nat} {z : Str} {kvs : List (L2.Key × D)} {d : D} {y zv u : V} {D' : Ends} (s3 : Sim K μ σ H ρ S) (rd : RepV K H μ d y) (ro : RepV K H μ (.ref n) zv) (ri : RepV K H μ (.str z) u) (hS : S[n]? = some (.dk kvs)) (hl : kvs.length < linesz)
    (q : PostO K γ W μ H (.nx ρ (S.set n (.dk (kPut kvs (.inr z) d)))) D') : rSetD zv u y H fun H' => D'.nx σ H' := by
  cases ri
  obtain ⟨a, gs, rfl, hH, g1, g2, hm⟩ := s3.dk ro hS
  have hlen : gs.length = kvs.length := by
    have := congrArg List.length g1
    simpa using this
  obtain ⟨p1, p2⟩ := dk_put (k := .inr z) g1 g2 rd
  have le : Le K μ H μ (upd H a (.dK (putK gs (.inr z) y))) := le_updC hH nt_dk
  exact ⟨a, _, rfl, .inl ⟨gs, .inr z, hH, rfl, by rw [hlen, ← linesz_eq]; exact hl, rfl⟩, q μ _ σ le ⟨s3.e.mono le, s3.s.writeC hS hm hH nt_dk rfl rfl ⟨_, upd_same, p1, p2.mono le⟩⟩⟩
theorem ss_ist (G : Good X Γ γ W P) (o i e : E) : SndS X γ W (run P (.ist o i e)) (chkC (.ist o i e) Γ) := by
  refine snd_ofS fun st h => ?_
  split at h
  case h_2 => cases h
  case h_1 ov iv p v pos =>
    obtain ⟨h, h4⟩ := band h
    obtain ⟨h, h3⟩ := band h
    obtain ⟨h1, h2⟩ := band h
    have hns := no_slice iv h2
    have ha : ∀ v, assign (.Subscript ov iv p) X.env v = (do
        let ov ← holding [v] (eval ov X.env)
        let iv ← holding [v, ov] (eval iv X.env)
        standAt p
        holding [v, ov, iv] (setItem ov iv v)
        release [v, ov, iv] []) := fun v => by
      cases iv <;> first | rfl | exact absurd rfl (hns _ _ _ _)
    refine ps_imp (ps_asg ((snd_all e G).e _ h3) (pg_sub ((snd_all o G).e _ h1) ((snd_all i G).e _ h2) (set_or (set_or set_list (set_dx (by have := G.un; omega))) (set_dict (by have := G.un; omega))) ha) (show swapsWithSole [Expr.Subscript ov iv p] v pos.line X.env = pure false from sw_plain h4 (some (Expr.Subscript ov iv p)) pos.line X.env)) fun D σ H ⟨μ, ρ, S, s, q⟩ => ?_
    refine ⟨μ, ρ, S, s, (PostO.of q).imp fun y H1 ⟨μ1, S1, d, _, le1, s1, r1, q1⟩ => ⟨μ1, ρ, S1, s1, (PostO.of q1).imp fun z H2 ⟨μ2, S2, d2, _, le2, s2, r2, q2⟩ => ⟨μ2, ρ, S2, s2, (PostO.of q2).imp fun u H3 ⟨μ3, S3, d3, _, le3, s3, r3, q3⟩ => ?_⟩⟩⟩
    unfold istO at q3
    split at q3
    case h_4 => exact q3.elim
    case h_1 n k =>
      split at q3
      case h_2 => exact q3.elim
      case h_1 xs hS =>
        split at q3
        case h_2 => exact q3.elim
        case h_1 j hj =>
          cases r3
          obtain ⟨a, vs, rfl, hH, rs, hm⟩ := s3.list (RepV.mono le3 r2) (by assumption)
          refine .inl (.inl ⟨a, vs, _, j, rfl, rfl, hH, by rw [rs.length]; exact hj, ?_⟩)
          exact q3 μ3 _ σ (le_upd hH) (s3.write hS hm hH (reps_set j rs (RepV.mono le3 (RepV.mono le2 r1))))
    case h_2 n ks =>
      split at q3
      case h_2 => exact q3.elim
      case h_1 kvs hS =>
        split at q3
        case h_2 => exact q3.elim
        case h_1 k hk =>
          split at q3
          case isFalse => exact q3.elim
          case isTrue hl =>
            obtain ⟨a, xs, rfl, hH, rx, hm⟩ := s3.dct (RepV.mono le3 r2) hS
            obtain ⟨b, rfl, hb⟩ := key_rep r3 (k := k) hk
            have hlen := rx.length
            refine .inl (.inr ⟨a, b, xs, k, rfl, rfl, hH, rx.kx, hb, by rw [← hlen, ← linesz_eq]; exact hl, fun u hu => ?_⟩)
            have le : Le X.K μ3 H3 μ3 (upd H3 a (DX a (storedH xs k b u))) := le_updC hH nt_dx
            exact q3 μ3 _ σ le ⟨s3.e.mono le, s3.s.writeC hS hm hH nt_dx rfl rfl ⟨_, upd_same, (rx.put hb (RepV.mono le3 (RepV.mono le2 r1)) hu).mono le⟩⟩
    case h_3 =>
      split at q3
      case h_2 => exact q3.elim
      case h_1 kvs hS =>
        split at q3
        case isFalse => exact q3.elim
        case isTrue hl => exact .inr (set_dk_of s3 (RepV.mono le3 (RepV.mono le2 r1)) (RepV.mono le3 r2) r3 hS hl q3)
theorem ss_del (G : Good X Γ γ W P) (o i : E) : SndS X γ W (run P (.del o i)) (chkC (.del o i) Γ) := by
  refine snd_ofS fun st h => ?_
  split at h
  case h_2 => cases h
  case h_1 ov iv p pos =>
    obtain ⟨h1, h2⟩ := band h
    refine ps_imp (ps_delX (by have := G.un; omega) ((snd_all o G).e _ h1) ((snd_all i G).e _ h2)) fun D σ H ⟨μ, ρ, S, s, q⟩ => ?_
    refine ⟨μ, ρ, S, s, (PostO.of q).imp fun z H2 ⟨μ2, S2, d2, _, le2, s2, r2, q2⟩ => ⟨μ2, ρ, S2, s2, (PostO.of q2).imp fun u H3 ⟨μ3, S3, d3, _, le3, s3, r3, q3⟩ => ?_⟩⟩
    unfold delO at q3
    split at q3
    case h_2 => exact q3.elim
    case h_1 n ks =>
      split at q3
      case h_2 => exact q3.elim
      case h_1 kvs hS =>
        split at q3
        case h_2 => exact q3.elim
        case h_1 k hk =>
          split at q3
          case isFalse => exact q3.elim
          case isTrue hg =>
            obtain ⟨a, xs, rfl, hH, rx, hm⟩ := s3.dct (RepV.mono le3 r2) hS
            obtain ⟨b, rfl, hb⟩ := key_rep r3 (k := k) hk
            have le : Le X.K μ3 H3 μ3 (upd H3 a (DX a (withoutH xs k))) := le_updC hH nt_dx
            exact ⟨a, b, xs, k, rfl, rfl, hH, rx.kx, hb, by rw [rx.isS]; exact hg, q3 μ3 _ σ le ⟨s3.e.mono le, s3.s.writeC hS hm hH nt_dx rfl rfl ⟨_, upd_same, (rx.del k).mono le⟩⟩⟩
theorem ss_raise (G : GoodS X Γ γ W P) (c : Nat) : SndS X γ W (run P (.raise c)) (chkC (.raise c) Γ) := by
  refine snd_ofS fun st h => ?_
  split at h
  case h_2 => cases h
  case h_1 =>
    obtain ⟨h, h4⟩ := band h
    obtain ⟨h, h3⟩ := band h
    obtain ⟨h1, h2⟩ := band h
    obtain ⟨C, bmB, B, newId, initId, g1, g2, g3, g4, g5, g6, g7, _⟩ := G.exs c _ (of_decide_eq_true h4)
    obtain ⟨n1, _, _⟩ := nodbg_of h3
    refine ps_imp (ps_raise (G.calm h1) G.tk (pmk_own g2 g3 g4 g5 (raises_own g6 g7) (gl_of G.toGood h2) n1)) fun D σ H ⟨μ, ρ, S, s, q⟩ => ?_
    have := q μ H σ none .refl s (.inl ⟨rfl, rfl⟩)
    rw [g1] at this
    exact this
theorem takes_no {X : Cx} {W : WX} (h : ∀ c d σ H, ¬ W c d σ H) : Takes X W := fun _ _ ⟨_, _, _, _, _, _, _, _, _, _, _, _, _, _, _, _, w⟩ => (h _ _ _ _ w).elim
theorem hotP_ok {c a c' a' : Nat} {S : Store} (h : hotP c a hotq [.exc c' a'] S ≠ .bad) : c' = c ∧ a' = a ∧ hotP c a hotq [.exc c' a'] S = .ok .non S := by
  unfold hotP at h ⊢
  rw [if_pos rfl] at h ⊢
  by_cases e : c' = c ∧ a' = a
  · exact ⟨e.1, e.2, if_pos e⟩
  · exact absurd (if_neg e) h
/-- the suite's place -/
theorem good_suite (G : GoodS X Γ γ W P) {a : Addr} {oe : Obj} {pn : List (Addr × Obj)} {c : Nat} {x : Str} (hc : Γ.exs[c]? = some x) (hz : Zc (γ c) none oe) (hf : ∃ vs, oe.data = .fields vs) :
    GoodS (X.suite a ((a, oe) :: pn)) Γ.suite γ (fun _ _ _ _ => False) (hotP c a) where
  N := G.N
  nd := G.nd
  sc := G.sc
  fn := G.fn
  calm := fun h => nomatch h
  un := G.un
  glb := G.glb
  blt := G.blt
  tk := takes_no fun _ _ _ _ h => h
  fns := fun h => nomatch h
  atr := G.atr
  isa := G.isa
  hot := fun _ c' a' S h => by
    obtain ⟨rfl, rfl, e⟩ := hotP_ok h
    obtain ⟨C, bmB, B, newId, initId, g1, g2, g3, g4, g5, g6, g7, g8⟩ := G.exs _ x hc
    refine ⟨e, C, g1, ?_⟩
    rw [g1] at hz
    exact call_isE g8 hz hf
  own := PassesOwn.never
  stk := G.stk
  frm := G.frm
  exs := G.exs
theorem good_tr (G : GoodS X Γ γ W P) (hh : Γ.hot = false) {W' : WX} {pn : List (Addr × Obj)} {xe : Value → Shared → Prop} (tk : Takes (X.tr pn xe) W') (ow : PassesOwn (model X.prog X.w) X.A X.env xe) :
    GoodS (X.tr pn xe) Γ γ W' P where
  N := G.N
  nd := G.nd
  sc := G.sc
  fn := G.fn
  calm := G.calm
  un := G.un
  glb := G.glb
  blt := G.blt
  tk := tk
  fns := G.fns
  atr := G.atr
  isa := G.isa
  hot := fun h => by rw [hh] at h; cases h
  own := ow
  stk := G.stk
  frm := G.frm
  exs := G.exs
theorem unset_ok {o : O} {i : Nat} {D : Ends} (h : PostO K γ W μ H (o.unset i) D) :
    PostO K γ (fun _ _ _ _ => False) μ H o { nx := fun σ' H' => D.nx (σ'.set i none) H', rt := D.rt, bk := fun σ' H' => D.bk (σ'.set i none) H', ct := fun σ' H' => D.ct (σ'.set i none) H' } := by
  cases o with
  | nx ρ S => exact fun μ' H' σ' l s => h μ' H' _ l ⟨RepE.wipe s.e [i], s.s⟩
  | bk ρ S => exact fun μ' H' σ' l s => h μ' H' _ l ⟨RepE.wipe s.e [i], s.s⟩
  | ct ρ S => exact fun μ' H' σ' l s => h μ' H' _ l ⟨RepE.wipe s.e [i], s.s⟩
  | ret d S => exact h
  | exc => exact h.elim
  | bad => exact h.elim
theorem noexc_ok {o : O} {D : Ends} (h : PostO K γ W μ H o.noexc D) : PostO K γ (fun _ _ _ _ => False) μ H o D := by
  cases o with
  | nx ρ S => exact h
  | bk ρ S => exact h
  | ct ρ S => exact h
  | ret d S => exact h
  | exc => exact h.elim
  | bad => exact h.elim
theorem suiteO_ok {f : Nat → O} {D : Ends} (h : PostO K γ W μ H (suiteO f) D) (a : Nat) : PostO K γ W μ H (f a) D := by
  unfold suiteO at h
  split at h
  case isTrue e => rw [e a]; exact h
  case isFalse => exact h.elim
theorem ss_tryAs (G : GoodS X Γ γ W P) (b : C) (y : Str) (tbl : List Bool) (i : Nat) (s : C) (hb : ∀ {X : Cx} {W : WX}, GoodS X Γ γ W P → SndS X γ W (run P b) (chkC b Γ))
    (hs : ∀ {X : Cx} {W : WX} {P : Nat → List D → Store → R D}, GoodS X Γ.suite γ W P → SndS X γ W (run P s) (chkC s Γ.suite)) : SndS X γ W (run P (.tryAs b y tbl i s)) (chkC (.tryAs b y tbl i s) Γ) := by
  refine snd_ofS fun st h => ?_
  split at h
  case h_2 => cases h
  case h_1 body z zp n b₀ r hp pos =>
    obtain ⟨h, h10⟩ := band h
    obtain ⟨h, h9⟩ := band h
    obtain ⟨h, h8⟩ := band h
    obtain ⟨h, h7⟩ := band h
    obtain ⟨h, h6⟩ := band h
    obtain ⟨h, h5⟩ := band h
    obtain ⟨h, h4⟩ := band h
    obtain ⟨h, h3⟩ := band h
    obtain ⟨h1, h2⟩ := band h
    have hh : Γ.hot = false := by simpa using h1
    have e1 := of_decide_eq_true h2
    subst e1
    obtain ⟨cv, v, r1, r2, r3, r4⟩ := G.isa _ _ (of_decide_eq_true h5)
    obtain ⟨n1, _, _⟩ := nodbg_of h4
    have hi : X.N[i]? = some n := by rw [G.N]; exact of_decide_eq_true h7
    have hln : X.env.kindOf n = some .local := by unfold Env.kindOf; rw [G.sc]; exact of_decide_eq_true h8
    have htl := of_decide_eq_true h6
    refine ps_imp (ps_try_as (c := cv) (i := i) (Wout := W) (tb := fun W' => sR X.K γ W' (run P b))
      (ts := fun a cls d D σ H => ∃ c x, Γ.exs[c]? = some x ∧ cls = γ c ∧ d = none ∧ sR X.K γ (fun _ _ _ _ => False) (run (hotP c a) s) D σ H)
      G.stk G.frm G.nd hi hln ⟨gl_of G.toGood h3, n1, r3⟩ G.tk
      (fun W' pn xe tk ow => (hb (good_tr G hh tk ow)).b _ h9) (fun a oe cls d pn hz hf => ⟨fun pins s1 σ H D I ⟨c, x, k1, k2, k3, q⟩ => ?_⟩)) fun D σ H ⟨μ, ρ, S, s1, q⟩ => ?_
    · subst k2 k3
      exact ((hs (good_suite G (pn := pn) k1 hz hf)).b _ h10).run pins s1 σ H D I q
    · refine ⟨μ, ρ, S, s1, ?_⟩
      change PostO X.K γ W μ H (catchO (run P b ρ S) tbl _) D at q
      cases e : run P b ρ S with
      | nx => rw [e] at q; exact q
      | bk => rw [e] at q; exact q
      | ct => rw [e] at q; exact q
      | ret => rw [e] at q; exact q
      | bad => rw [e] at q; exact q.elim
      | exc c fs ρ1 S1 =>
        rw [e] at q
        intro μ1 H1 σ1 dx le s2 xd
        simp only [catchO] at q
        split at q
        · rename_i hc
          refine ⟨true, (r4 c true hc).2, fun _ a ha => ?_, fun z => absurd z.symm Bool.false_ne_true⟩
          have hd : dx = none := by
            rcases xd with ⟨_, z⟩ | ⟨z, _⟩
            · exact z
            · exact absurd rfl z
          obtain ⟨x, hx⟩ : ∃ x, Γ.exs[c]? = some x := ⟨_, List.getElem?_eq_getElem (by have := (List.getElem?_eq_some_iff.mp hc).1; omega)⟩
          refine ⟨c, x, hx, rfl, hd, μ1, ρ1.set i (some (.exc c a)), S1, ⟨s2.e.set (.exc c a) i, s2.s⟩, ?_⟩
          exact suiteO_ok (f := fun a => run (hotP c a) s (ρ1.set i (some (.exc c a))) S1) (PostO.base le (unset_ok q)) a
        · rename_i hc
          exact ⟨false, (r4 c false hc).2, (fun z => absurd z Bool.false_ne_true), fun _ => q μ1 H1 σ1 dx le s2 xd⟩
        · exact q.elim
theorem ss_tryOn (G : GoodS X Γ γ W P) (b : C) (y : Str) (tbl : List Bool) (s : C) (hb : ∀ {X : Cx} {W : WX}, GoodS X Γ γ W P → SndS X γ W (run P b) (chkC b Γ))
    (hs : ∀ {X : Cx} {W : WX} {P : Nat → List D → Store → R D}, GoodS X Γ.suite γ W P → SndS X γ W (run P s) (chkC s Γ.suite)) : SndS X γ W (run P (.tryOn b y tbl s)) (chkC (.tryOn b y tbl s) Γ) := by
  refine snd_ofS fun st h => ?_
  split at h
  case h_2 => cases h
  case h_1 body z zp b₀ r hp pos =>
    obtain ⟨h, h10⟩ := band h
    obtain ⟨h, h9⟩ := band h
    obtain ⟨h, h6⟩ := band h
    obtain ⟨h, h5⟩ := band h
    obtain ⟨h, h4⟩ := band h
    obtain ⟨h, h3⟩ := band h
    obtain ⟨h1, h2⟩ := band h
    have hh : Γ.hot = false := by simpa using h1
    have e1 := of_decide_eq_true h2
    subst e1
    obtain ⟨cv, v, r1, r2, r3, r4⟩ := G.isa _ _ (of_decide_eq_true h5)
    obtain ⟨n1, _, _⟩ := nodbg_of h4
    have htl := of_decide_eq_true h6
    refine ps_imp (ps_try_only (c := cv) (Wout := W) (tb := fun W' => sR X.K γ W' (run P b))
      (ts := fun a cls d D σ H => ∃ c x, Γ.exs[c]? = some x ∧ cls = γ c ∧ d = none ∧ sR X.K γ (fun _ _ _ _ => False) (run (hotP c a) s) D σ H)
      G.stk G.frm ⟨gl_of G.toGood h3, n1, r3⟩ G.tk
      (fun W' pn xe tk ow => (hb (good_tr G hh tk ow)).b _ h9) (fun a oe cls d pn hz hf => ⟨fun pins s1 σ H D I ⟨c, x, k1, k2, k3, q⟩ => ?_⟩)) fun D σ H ⟨μ, ρ, S, s1, q⟩ => ?_
    · subst k2 k3
      exact ((hs (good_suite G (pn := pn) k1 hz hf)).b _ h10).run pins s1 σ H D I q
    · refine ⟨μ, ρ, S, s1, ?_⟩
      change PostO X.K γ W μ H (catchO (run P b ρ S) tbl _) D at q
      cases e : run P b ρ S with
      | nx => rw [e] at q; exact q
      | bk => rw [e] at q; exact q
      | ct => rw [e] at q; exact q
      | ret => rw [e] at q; exact q
      | bad => rw [e] at q; exact q.elim
      | exc c fs ρ1 S1 =>
        rw [e] at q
        intro μ1 H1 σ1 dx le s2 xd
        simp only [catchO] at q
        split at q
        · rename_i hc
          refine ⟨true, (r4 c true hc).2, fun _ a ha => ?_, fun z => absurd z.symm Bool.false_ne_true⟩
          have hd : dx = none := by
            rcases xd with ⟨_, z⟩ | ⟨z, _⟩
            · exact z
            · exact absurd rfl z
          obtain ⟨x, hx⟩ : ∃ x, Γ.exs[c]? = some x := ⟨_, List.getElem?_eq_getElem (by have := (List.getElem?_eq_some_iff.mp hc).1; omega)⟩
          refine ⟨c, x, hx, rfl, hd, μ1, ρ1, S1, s2, ?_⟩
          exact suiteO_ok (f := fun a => run (hotP c a) s ρ1 S1) (PostO.base le (noexc_ok q)) a
        · rename_i hc
          exact ⟨false, (r4 c false hc).2, (fun z => absurd z Bool.false_ne_true), fun _ => q μ1 H1 σ1 dx le s2 xd⟩
        · exact q.elim
/-! ### name = X[key]; return name(e, ..) -/
def tCallH (i : Nat) (A : Addr → Sp → Prop) (E : L2.St → XK) (t : TA) : TE := fun σ H Q => ∃ f sp, σ[i]? = some (some (.ref f)) ∧ A f sp ∧ t σ H fun vs H1 => sp vs H1 Q (E σ)
theorem pe_callH {CX : CXT} {i : Nat} {A : Addr → Sp → Prop} {E : L2.St → XK} {x : Str} {p pos : Pos} {e : Expr} {es : List Expr} {t : TA}
    (hA : ∀ f sp, A f sp → ∃ k fd ps, FnOk X.prog X.w X.K X.mg X.base CX k f fd ps sp ∧ Room k X.A ∧ PySem.W.keepIn X.K (.ref f) = true ∧ Binds X.K fd ps []) (hx : ∀ σ, PassesAt CX X σ (E σ)) (hN : X.N[i]? = some x) (hv : Vis X.env.scope x) (ha : PA X (e :: es) t)
    (hdb : (x == ("__debug__" : Str)) = false) (hcd : (x == ("__classdict__" : Str)) = false) (he : starEach (e :: es) X.env = (false, eval e X.env) :: starEach es X.env) (hpl : (backTo pos (starEach es X.env)).any (·.1) = false) :
    PE X (.Call (.Name x p) (e :: es) [] pos) (tCallH i A E t) := by
  refine ⟨fun pins s σ H Q I h => ?_⟩
  obtain ⟨f, sp, hs, hf, ht⟩ := h
  obtain ⟨k, fd, ps, F, hr, hk, hb⟩ := hA f sp hf
  refine wpAny_Call_Name_kw (thn ((pe_var (pos := p) hN hv hdb hcd).run pins s σ H (fun v H1 => v = .ref f ∧ H1 = H) I ⟨.ref f, hs, rfl, rfl⟩) fun u s1 ⟨v, H1, I1, r1, q1⟩ => ?_)
  obtain ⟨rfl, rfl⟩ := q1
  cases r1
  refine PySem.W.callWith_K (h₀ := X.base) I.ok.mod.kin hk (thn (ha.run pos pins s1 σ _ _ I1 ht) fun us s2 ⟨vs, H2, I2, r, q⟩ => ⟨I2.kIn, ?_⟩) he hpl
  exact run_fnSD F hr hb .nil (hx σ) I2 r (by rw [List.append_nil]; exact q)
theorem repE_forget {K : PySem.W.Frag} {H : Hp} {μ : Mu} {σ : L2.St} {ρ : Env} (h : RepE K H μ σ ρ) (i : Nat) (x : Option V) : RepE K H μ (σ.set i x) (ρ.set i none) := by
  refine ⟨by rw [List.length_set, List.length_set]; exact h.1, fun j d hj => ?_⟩
  by_cases e : i = j
  · subst e
    rw [List.getElem?_set] at hj
    simp only [if_true] at hj
    split at hj <;> cases hj
  · rw [List.getElem?_set_ne e] at hj ⊢
    exact h.2 j d hj
theorem ss_dsp (G : GoodS X Γ γ W P) (i : Nat) (x : Str) (tbl : List (Str × Str × Nat)) (e as : E) : SndS X γ W (run P (.dsp i x tbl e as)) (chkC (.dsp i x tbl e as) Γ) := by
  refine ⟨(fun _ h => nomatch h), fun sts h => ?_⟩
  simp only [chkC] at h
  split at h
  case h_2 => cases h
  case h_1 v pv y py ei p1 p2 v2 p3 a es p4 p5 =>
    obtain ⟨h, hvis⟩ := band h
    obtain ⟨h, hndv⟩ := band h
    obtain ⟨h, has⟩ := band h
    obtain ⟨h, hei⟩ := band h
    obtain ⟨h, htb⟩ := band h
    obtain ⟨h, hlk⟩ := band h
    obtain ⟨h, hnd⟩ := band h
    obtain ⟨h, hgl⟩ := band h
    obtain ⟨h, hyx⟩ := band h
    obtain ⟨h, hnm⟩ := band h
    obtain ⟨hcalm, hv2⟩ := band h
    have ev2 : v2 = v := of_decide_eq_true hv2
    subst ev2
    obtain ⟨n1, n2, n3⟩ := nodbg_of hnd
    obtain ⟨m1, m2, m3⟩ := nodbg_of hndv
    obtain ⟨w1, w2, w3⟩ := ck_name G.toGood hnm
    obtain ⟨ad, den, n, g1, D0, g3⟩ := G.glb y (.f tbl) (of_decide_eq_true hlk)
    have tb : ∀ z q f, tbl.lookup z = some (q, f) → Γ.fns[f]? = some (.fn q) := fun z q f e => by
      have := List.all_eq_true.mp htb (z, q, f) (PySem.mem_of_lookup e)
      exact of_decide_eq_true this
    obtain ⟨s1, s2⟩ := star_a as a es has X.env
    have he := (snd_all e G.toGood).e _ hei
    have p1' := pe_ix (pos := p1) (ix_kdict (X := X)) (pe_glob (v := .ref ad) (pos := py) (gl_of G.toGood hgl) g1 rfl n1) he (plain_ix (no_slice ei hei))
    have q1' := ps_set (pos := p2) (pos' := pv) G.nd w1 w2 p1' (sw_plain rfl _ _ _) w3
    let A : Addr → Sp → Prop := fun f sp => ∃ z q g k fd ps, tbl.lookup z = some (q, g) ∧ FnP X.prog X.w X.K X.mg X.base γ P g k f fd ps ∧ Room k X.A ∧ PySem.W.keepIn X.K (.ref f) = true ∧ sp = spF X.K γ P ps.length g
    have p2' := pe_callH (CX := L2.CX X.prog X.w) (A := A) (p := p3) (pos := p4) (E := fun σ => WE W σ) (fun f sp ⟨z, q, g, k, fd, ps, _, F, hr, hk, e⟩ => ⟨k, fd, ps, e ▸ F.ok, hr, hk, F.bnd⟩) (fun σ => passAt G.tk σ) w1 (vis_of G.toGood hvis) ((snd_all as G.toGood).a _ has) m1 m2 s1 (s2 p4)
    refine pss_imp (pss_cons q1' (pss_cons (ps_ret (pos := p5) p2') pss_nil)) fun D σ H ⟨μ, ρ, S, s, q⟩ => ?_
    obtain ⟨hi, q⟩ := PostO.cond q
    have hi : i < ρ.length := of_decide_eq_true hi
    refine ⟨μ, ρ, S, s, (PostO.of q).imp fun x1 H1 ⟨μ1, S1, d1, _, le1, sm1, r1, q1⟩ => ?_⟩
    unfold dspO at q1
    split at q1
    case h_2 => exact q1.elim
    case h_1 t _ =>
      cases r1
      split at q1
      case h_2 => exact q1.elim
      case h_1 pr epr =>
        obtain ⟨qn, g⟩ := pr
        obtain ⟨addr, e1, e2⟩ := g3 (t, qn, g) (PySem.mem_of_lookup epr)
        obtain ⟨k, addr2, fd, ps, F, hr, hm, hk⟩ := G.fns hcalm g _ (tb t qn g epr)
        have : addr2 = addr := by rw [hm] at e1; cases e1; rfl
        subst this
        refine ⟨ad, t, .ref addr2, rfl, rfl, ⟨den, n, .ref addr2, D0.at_, D0.lit, e2, rfl⟩, ?_⟩
        have sm2 : Sim X.K μ1 (σ.set i (some (.ref addr2))) H1 (ρ.set i none) S1 := ⟨repE_forget sm1.e i _, sm1.s⟩
        have hσ : i < σ.length := by rw [sm1.e.1]; exact hi
        refine ⟨addr2, _, by rw [List.getElem?_set_self hσ], ⟨t, qn, g, k, fd, ps, epr, F, hr, hk, rfl⟩, ?_⟩
        refine ⟨μ1, ρ.set i none, S1, sm2, (PostO.of q1).imp fun vs H2 ⟨μ2, S2, ds, _, le2, sm3, r2, q2⟩ => ?_⟩
        exact sp_of F.len sm3 r2 ((PostO.of q2).imp fun v H3 ⟨μ3, S3, d3, _, le3, sm4, r3, q3⟩ => q3 μ3 H3 v .refl sm4.s r3)
/-- EVERY STATEMENT -/
theorem ss_all : ∀ (c : C) {X : Cx} {Γ : Gam} {W : WX} {P : Nat → List D → Store → R D}, GoodS X Γ γ W P → SndS X γ W (run P c) (chkC c Γ)
  | .skip, _, _, _, _, _ => ss_skip
  | .seq a b, _, _, _, _, G => ss_seq (ss_all a G) (ss_all b G)
  | .ex e, _, _, _, _, G => ss_ex G.toGood e
  | .asg tg e, _, _, _, _, G => ss_asg G.toGood tg e
  | .aug i o e, _, _, _, _, G => ss_aug G.toGood i o e
  | .ret e, _, _, _, _, G => ss_ret G.toGood e
  | .retN, _, _, _, _, _ => ss_retN
  | .ite c a b, _, _, _, _, G => ss_ite G.toGood c (ss_all a G) (ss_all b G)
  | .whl n c b, _, _, _, _, G => ss_whl G n c (ss_all b G)
  | .for tg it b, _, _, _, _, G => ss_for G tg it (ss_all b G)
  | .brk, _, _, _, _, _ => ss_brk
  | .cnt, _, _, _, _, _ => ss_cnt
  | .pass, _, _, _, _, _ => ss_pass
  | .fst c f o e, _, _, _, _, G => ss_fst G.toGood c f o e
  | .ist o i e, _, _, _, _, G => ss_ist G.toGood o i e
  | .del o i, _, _, _, _, G => ss_del G.toGood o i
  | .fst2 c f g o e, _, _, _, _, G => ss_fst2 G.toGood c f g o e
  | .raise c, _, _, _, _, G => ss_raise G c
  | .any, _, _, _, _, _ => ss_any
  | .asg2 i j e, _, _, _, _, G => ss_asg2 G.toGood i j e
  | .dsp i x tbl e as, _, _, _, _, G => ss_dsp G i x tbl e as
  | .tryAs b y tbl i s, _, _, _, _, G => ss_tryAs G b y tbl i s (fun G => ss_all b G) (fun G => ss_all s G)
  | .tryOn b y tbl s, _, _, _, _, G => ss_tryOn G b y tbl s (fun G => ss_all b G) (fun G => ss_all s G)
end
end Ng

set_option Elab.async false
set_option linter.all false
set_option maxRecDepth 100000
set_option maxHeartbeats 4000000
/-! Defs keep the engine's promise; the end of a law. -/
namespace Ng
open PySem PySem.Spec PyProof.Rows L2
section
variable {K : PySem.W.Frag} {μ μ1 t : Mu} {H H1 : Hp} {S S1 : Store}
/-! ### what a def made and nobody names is forgotten -/
mutual
theorem RepV.lt : ∀ {d : D} {v : V}, RepV K H μ d v → ∀ n ∈ d.refs, n < μ.length
  | _, _, .non, n, h => by simp [D.refs] at h
  | _, _, .bl _, n, h => by simp [D.refs] at h
  | _, _, .int _, n, h => by simp [D.refs] at h
  | _, _, .str _, n, h => by simp [D.refs] at h
  | _, _, .tup _ r, n, h => RepVs.lt r n (by simpa [D.refs] using h)
  | _, _, .ref hm, n, h => by
    simp only [D.refs, List.mem_singleton] at h
    subst h
    exact (List.getElem?_eq_some_iff.mp hm).1
  | _, _, .exc .., n, h => by simp [D.refs] at h
theorem RepVs.lt : ∀ {ds : List D} {vs : List V}, RepVs K H μ ds vs → ∀ n ∈ D.refsL ds, n < μ.length
  | _, _, .nil, n, h => by simp [D.refsL] at h
  | _, _, .cons r rs, n, h => by
    simp only [D.refsL, List.mem_append] at h
    rcases h with h | h
    · exact RepV.lt r n h
    · exact RepVs.lt rs n h
end
mutual
/-- the cells renamed -/
theorem RepV.ren {f : Nat → Nat} : ∀ {d : D} {v : V}, RepV K H μ d v → (∀ n ∈ d.refs, ∀ a, μ[n]? = some a → μ1[f n]? = some a) → RepV K H μ1 (d.ren f) v
  | _, _, .non, _ => .non
  | _, _, .bl b, _ => .bl b
  | _, _, .int i, _ => .int i
  | _, _, .str x, _ => .str x
  | _, _, .tup h r, q => by
    simp only [D.ren]
    exact .tup h (RepVs.ren r fun n hn => q n (by simpa [D.refs] using hn))
  | _, _, .ref hm, q => by
    simp only [D.ren]
    exact .ref (q _ (by simp [D.refs]) _ hm)
  | _, _, .exc c a, _ => .exc c a
theorem RepVs.ren {f : Nat → Nat} : ∀ {ds : List D} {vs : List V}, RepVs K H μ ds vs → (∀ n ∈ D.refsL ds, ∀ a, μ[n]? = some a → μ1[f n]? = some a) → RepVs K H μ1 (D.renL f ds) vs
  | _, _, .nil, _ => .nil
  | _, _, .cons r rs, q => by
    simp only [D.renL]
    exact .cons (RepV.ren r fun n hn => q n (by simp [D.refsL, hn])) (RepVs.ren rs fun n hn => q n (by simp [D.refsL, hn]))
end
mutual
theorem D.ren_id {f : Nat → Nat} : ∀ d : D, (∀ n ∈ d.refs, f n = n) → d.ren f = d
  | .non, _ => rfl
  | .bl _, _ => rfl
  | .int _, _ => rfl
  | .str _, _ => rfl
  | .tup ds, h => by
    simp only [D.ren]
    rw [D.renL_id ds fun n hn => h n (by simpa [D.refs] using hn)]
  | .ref n, h => by simp only [D.ren]; rw [h n (by simp [D.refs])]
  | .exc .., _ => rfl
theorem D.renL_id {f : Nat → Nat} : ∀ ds : List D, (∀ n ∈ D.refsL ds, f n = n) → D.renL f ds = ds
  | [], _ => rfl
  | d :: ds, h => by
    simp only [D.renL]
    rw [D.ren_id d fun n hn => h n (by simp [D.refsL, hn]), D.renL_id ds fun n hn => h n (by simp [D.refsL, hn])]
end
theorem D.renL_length {f : Nat → Nat} : ∀ ds : List D, (D.renL f ds).length = ds.length
  | [] => rfl
  | d :: ds => by simp [D.renL, D.renL_length ds]
theorem zip_fst {α β : Type} : ∀ {xs : List α} {ys : List β}, ys.length = xs.length → (xs.zip ys).map (·.1) = xs
  | [], _, _ => rfl
  | x :: xs, [], h => by simp at h
  | x :: xs, y :: ys, h => by simp [zip_fst (xs := xs) (ys := ys) (by simpa using h)]
theorem zip_snd {α β : Type} : ∀ {xs : List α} {ys : List β}, ys.length = xs.length → (xs.zip ys).map (·.2) = ys
  | [], [], _ => rfl
  | [], _ :: _, h => by simp at h
  | x :: xs, [], h => by simp at h
  | x :: xs, y :: ys, h => by simp [zip_snd (xs := xs) (ys := ys) (by simpa using h)]
theorem zip_back {α β : Type} (l : List (α × β)) : (l.map (·.1)).zip (l.map (·.2)) = l := by
  induction l with
  | nil => rfl
  | cons x l ih => simp [ih]
theorem KVX.ren {f : Nat → Nat} {kvs : List (List Int × D)} {xs : List (List Int × Addr × Value)} (r : KVX K H μ kvs xs) (q : ∀ n ∈ D.refsL (kvs.map (·.2)), ∀ a, μ[n]? = some a → μ1[f n]? = some a) :
    KVX K H μ1 ((kvs.map (·.1)).zip (D.renL f (kvs.map (·.2)))) xs := by
  induction r with
  | nil => exact .nil
  | @cons p x ps xs h t ih =>
    obtain ⟨h1, h2, v, h3, h4⟩ := h
    simp only [List.map_cons, D.renL, List.zip_cons_cons]
    exact .cons ⟨h1, h2, v, h3.ren fun n hn => q n (by simp [D.refsL, hn]), h4⟩ (ih fun n hn => q n (by simp only [List.map_cons, D.refsL, List.mem_append]; exact .inr hn))
theorem KVX.lt {kvs : List (List Int × D)} {xs : List (List Int × Addr × Value)} (r : KVX K H μ kvs xs) : ∀ n ∈ D.refsL (kvs.map (·.2)), n < μ.length := by
  induction r with
  | nil => intro n hn; cases hn
  | @cons p x ps xs h t ih =>
    obtain ⟨h1, h2, v, h3, h4⟩ := h
    intro n hn
    simp only [List.map_cons, D.refsL, List.mem_append] at hn
    rcases hn with hn | hn
    · exact h3.lt n hn
    · exact ih n hn
theorem RepC.ren {f : Nat → Nat} {c : Cell} {a : Addr} (r : RepC K H μ c a) (q : ∀ n ∈ c.refs, ∀ a, μ[n]? = some a → μ1[f n]? = some a) : RepC K H μ1 (c.ren f) a := by
  cases c with
  | lst ds => obtain ⟨vs, h, r⟩ := r; exact ⟨vs, h, r.ren q⟩
  | ro ds => obtain ⟨vs, h, r⟩ := r; exact ⟨vs, h, r.ren q⟩
  | dct kvs =>
    obtain ⟨xs, h, r⟩ := r
    exact ⟨xs, h, r.ren q⟩
  | hid kvs =>
    obtain ⟨o, xs, h, r⟩ := r
    exact ⟨o, xs, h, r.ren q⟩
  | dk kvs =>
    obtain ⟨o, h, r⟩ := r
    cases o <;> first | exact r.elim | skip
    obtain ⟨h1, r1⟩ := r
    have hl : (D.renL f (kvs.map (·.2))).length = (kvs.map (·.1)).length := by rw [D.renL_length]; simp
    refine ⟨_, h, ?_⟩
    simp only [Cell.ren, RelC]
    rw [zip_fst hl, zip_snd hl]
    exact ⟨h1, r1.ren q⟩
  | ins c fs =>
    obtain ⟨o, h, r⟩ := r
    cases o <;> first | exact r.elim | skip
    obtain ⟨h0, h1, r1⟩ := r
    have hl : (D.renL f (fs.map (·.2))).length = (fs.map (·.1)).length := by rw [D.renL_length]; simp
    refine ⟨_, h, ?_⟩
    simp only [Cell.ren, RelC]
    rw [zip_fst hl, zip_snd hl]
    exact ⟨h0, h1, r1.ren q⟩
theorem RepC.lt {c : Cell} {a : Addr} (r : RepC K H μ c a) : ∀ n ∈ c.refs, n < μ.length := by
  cases c with
  | lst ds => obtain ⟨vs, h, r⟩ := r; exact r.lt
  | ro ds => obtain ⟨vs, h, r⟩ := r; exact r.lt
  | dct _ => obtain ⟨o, h, r⟩ := r; exact r.lt
  | hid _ => obtain ⟨o, xs, h, r⟩ := r; exact r.lt
  | dk _ => obtain ⟨o, h, r⟩ := r; cases o <;> first | exact r.elim | exact r.2.lt
  | ins _ _ => obtain ⟨o, h, r⟩ := r; cases o <;> first | exact r.elim | exact r.2.2.lt
theorem Cell.ren_id {f : Nat → Nat} {c : Cell} (h : ∀ n ∈ c.refs, f n = n) : c.ren f = c := by
  cases c with
  | lst ds => simp only [Cell.ren]; rw [D.renL_id ds h]
  | ro ds => simp only [Cell.ren]; rw [D.renL_id ds h]
  | dct kvs => simp only [Cell.ren]; rw [D.renL_id _ h, zip_back]
  | dk kvs => simp only [Cell.ren]; rw [D.renL_id _ h, zip_back]
  | hid kvs => simp only [Cell.ren]; rw [D.renL_id _ h, zip_back]
  | ins c fs => simp only [Cell.ren]; rw [D.renL_id _ h, zip_back]
theorem Cell.ren_ro {f : Nat → Nat} {c : Cell} : (c.ren f).isRo = c.isRo := by cases c <;> rfl
/-- the elder cells and the cells L behind them -/
theorem keep_cells {L : List Nat} (hlen : μ.length = S.length) (le : Le K μ H μ1 H1) (r1 : RepS K H1 μ1 S1) (hn0 : S.length ≤ S1.length) (hE : ∀ n, n < S.length → ∀ c, S1[n]? = some c → ∀ m ∈ c.refs, m < S.length ∨ m ∈ L)
    (hL1 : ∀ n ∈ L, S.length ≤ n ∧ n < S1.length) (hnd : L.Nodup) (hL2 : ∀ n ∈ L, ∀ c, S1[n]? = some c → ∀ m ∈ c.refs, m < S.length ∨ m ∈ L) :
    ∃ μ2, (∃ t, μ2 = μ ++ t) ∧ (∀ m, (m < S.length ∨ m ∈ L) → ∀ a, μ1[m]? = some a → μ2[renOf S.length L m]? = some a) ∧ RepS K H1 μ2 ((S1.take S.length).map (Cell.ren (renOf S.length L)) ++ L.filterMap fun n => (S1[n]?).map (Cell.ren (renOf S.length L))) := by
  obtain ⟨t, rfl⟩ := le.pre
  have hμ1 := r1.len
  -- the cells of L
  have hf : ∀ L' : List Nat, (∀ n ∈ L', n < S1.length) → (L'.filterMap fun n => (S1[n]?).map (Cell.ren (renOf S.length L))).length = L'.length ∧
      ∀ (j : Nat) n, L'[j]? = some n → (L'.filterMap fun n => (S1[n]?).map (Cell.ren (renOf S.length L)))[j]? = (S1[n]?).map (Cell.ren (renOf S.length L)) := by
    intro L'
    induction L' with
    | nil => intro _; exact ⟨rfl, fun j n h => by simp at h⟩
    | cons m L' ih =>
      intro h
      obtain ⟨h1, h2⟩ := ih fun n hn => h n (List.mem_cons_of_mem _ hn)
      have hm := h m List.mem_cons_self
      rw [List.filterMap_cons, List.getElem?_eq_getElem hm]
      refine ⟨by simp [h1], fun j n hj => ?_⟩
      cases j with
      | zero =>
        simp at hj
        subst hj
        rw [List.getElem?_eq_getElem hm]
        rfl
      | succ j => simpa using h2 j n (by simpa using hj)
  obtain ⟨f1, f2⟩ := hf L fun n hn => (hL1 n hn).2
  have hg : ∀ L' : List Nat, (∀ n ∈ L', n < (μ ++ t).length) → (L'.filterMap fun n => (μ ++ t)[n]?).length = L'.length ∧
      ∀ (j : Nat) n, L'[j]? = some n → (L'.filterMap fun n => (μ ++ t)[n]?)[j]? = (μ ++ t)[n]? := by
    intro L'
    induction L' with
    | nil => intro _; exact ⟨rfl, fun j n h => by simp at h⟩
    | cons m L' ih =>
      intro h
      obtain ⟨h1, h2⟩ := ih fun n hn => h n (List.mem_cons_of_mem _ hn)
      have hm := h m List.mem_cons_self
      rw [List.filterMap_cons, List.getElem?_eq_getElem hm]
      refine ⟨by simp [h1], fun j n hj => ?_⟩
      cases j with
      | zero =>
        simp at hj
        subst hj
        rw [List.getElem?_eq_getElem hm]
        rfl
      | succ j => simpa using h2 j n (by simpa using hj)
  obtain ⟨g1, g2⟩ := hg L fun n hn => by rw [hμ1]; exact (hL1 n hn).2
  have at2 : ∀ m, (m < S.length ∨ m ∈ L) → ∀ a, (μ ++ t)[m]? = some a → (μ ++ L.filterMap fun n => (μ ++ t)[n]?)[renOf S.length L m]? = some a := by
    intro m hm a ha
    unfold renOf
    by_cases h : m < S.length
    · rw [if_pos h, List.getElem?_append_left (by omega)]
      rwa [List.getElem?_append_left (by omega)] at ha
    · rw [if_neg h]
      have hmL : m ∈ L := hm.resolve_left h
      have hj : L.findIdx (· == m) < L.length := List.findIdx_lt_length_of_exists ⟨m, hmL, by simp⟩
      have e1 : L[L.findIdx (· == m)]? = some m := by
        rw [List.getElem?_eq_getElem hj]
        have := List.findIdx_getElem (w := hj)
        simp at this
        rw [this]
      rw [List.getElem?_append_right (by omega), show S.length + L.findIdx (· == m) - μ.length = L.findIdx (· == m) by omega, g2 _ m e1]
      exact ha
  have hT : ((S1.take S.length).map (Cell.ren (renOf S.length L))).length = S.length := by simp [hn0]
  -- where an index comes from
  have back : ∀ (n : Nat) a, (μ ++ L.filterMap fun n => (μ ++ t)[n]?)[n]? = some a → ∃ m, (m = n ∧ n < S.length ∨ S.length ≤ n ∧ L[n - S.length]? = some m) ∧ (μ ++ t)[m]? = some a ∧
      ((S1.take S.length).map (Cell.ren (renOf S.length L)) ++ L.filterMap fun n => (S1[n]?).map (Cell.ren (renOf S.length L)))[n]? = (S1[m]?).map (Cell.ren (renOf S.length L)) := by
    intro n a ha
    by_cases h : n < S.length
    · refine ⟨n, .inl ⟨rfl, h⟩, ?_, ?_⟩
      · rw [List.getElem?_append_left (by omega)] at ha ⊢
        exact ha
      · rw [List.getElem?_append_left (by omega), List.getElem?_map, List.getElem?_take_of_lt h]
    · rw [List.getElem?_append_right (by omega)] at ha
      have hn : n - μ.length < L.length := by
        rw [← g1]
        exact (List.getElem?_eq_some_iff.mp ha).1
      obtain ⟨m, hm⟩ : ∃ m, L[n - μ.length]? = some m := ⟨_, List.getElem?_eq_getElem hn⟩
      rw [g2 _ m hm] at ha
      refine ⟨m, .inr ⟨by omega, by rw [← hlen]; exact hm⟩, ha, ?_⟩
      rw [List.getElem?_append_right (by omega), hT, show n - S.length = n - μ.length by omega, f2 _ m hm]
  refine ⟨μ ++ L.filterMap fun n => (μ ++ t)[n]?, ⟨_, rfl⟩, at2, ⟨by simp [f1, g1, hlen, hn0], fun n c a h1 h2 => ?_, fun m n a c e hmn h1 h2 h3 h4 => ?_⟩⟩
  · obtain ⟨m, hm, h3, h4⟩ := back n a h2
    rw [h4] at h1
    cases e : S1[m]? with
    | none => rw [e] at h1; cases h1
    | some c0 =>
      rw [e] at h1
      cases h1
      have rc := r1.cell m c0 a e h3
      refine rc.ren fun k hk b hb => at2 k ?_ b hb
      rcases hm with ⟨rfl, hlt⟩ | ⟨_, hmL⟩
      · exact hE m hlt c0 e k hk
      · exact hL2 m (List.mem_of_getElem? hmL) c0 e k hk
  · obtain ⟨m', hm', h5, h6⟩ := back m a h1
    obtain ⟨n', hn', h7, h8⟩ := back n a h2
    rw [h6] at h3
    rw [h8] at h4
    cases e1 : S1[m']? with
    | none => rw [e1] at h3; cases h3
    | some c0 =>
      cases e2 : S1[n']? with
      | none => rw [e2] at h4; cases h4
      | some e0 =>
        rw [e1] at h3
        rw [e2] at h4
        cases h3; cases h4
        rw [Cell.ren_ro, Cell.ren_ro]
        refine r1.apart m' n' a c0 e0 (fun z => ?_) h5 h7 e1 e2
        subst z
        rcases hm' with ⟨rfl, hlt⟩ | ⟨hge, hmL⟩
        · rcases hn' with ⟨rfl, _⟩ | ⟨hge2, hnL⟩
          · exact hmn rfl
          · have := (hL1 _ (List.mem_of_getElem? hnL)).1
            omega
        · rcases hn' with ⟨rfl, hlt⟩ | ⟨hge2, hnL⟩
          · have := (hL1 _ (List.mem_of_getElem? hmL)).1
            omega
          · have i1 := (List.getElem?_eq_some_iff.mp hmL).1
            have := (List.getElem?_inj i1 hnd).mp (hmL.trans hnL.symm)
            omega
theorem chg_mem : ∀ {S S1 : Store} {n : Nat} {c : Cell}, S1[n]? = some c → n < S.length → S[n]? ≠ some c → ∀ m ∈ c.refs, m ∈ chg S S1
  | [], _, n, c, _, h, _, _, _ => by simp at h
  | _ :: _, [], n, c, h, _, _, _, _ => by simp at h
  | a :: S, b :: S1, 0, c, h, _, hne, m, hm => by
    simp only [List.getElem?_cons_zero, Option.some.injEq] at h
    subst h
    unfold chg
    rw [if_neg (fun e => hne (by simp [e]))]
    exact List.mem_append_left _ hm
  | a :: S, b :: S1, n + 1, c, h, hl, hne, m, hm => by
    unfold chg
    exact List.mem_append_right _ (chg_mem (S := S) (S1 := S1) (n := n) (by simpa using h) (by simpa using hl) (by simpa using hne) m hm)
theorem keepE_eq {f : Nat → Nat} : ∀ {S S1 : Store}, S.length ≤ S1.length → (∀ (n : Nat) c, S[n]? = some c → S1[n]? = some c → c.ren f = c) → keepE f S S1 = (S1.take S.length).map (Cell.ren f)
  | [], S1, _, _ => by simp [keepE]
  | a :: S, [], h, _ => by simp at h
  | a :: S, b :: S1, h, hs => by
    have ih := keepE_eq (f := f) (S := S) (S1 := S1) (by simpa using h) fun n c h1 h2 => hs (n + 1) c (by simpa using h1) (by simpa using h2)
    simp only [keepE, List.length_cons, List.take_succ_cons, List.map_cons, ih]
    by_cases e : a = b
    · rw [if_pos e, hs 0 b (by simp [e]) (by simp)]
    · rw [if_neg e]
/-- what a def leaves behind -/
theorem keep_ok {rs L : List Nat} (r0 : RepS K H μ S) (le : Le K μ H μ1 H1) (r1 : RepS K H1 μ1 S1) (hc : keepC S S1 rs L = true) (hr : ∀ m ∈ chg S S1, m ∈ rs) :
    ∃ μ2, Le K μ H μ2 H1 ∧ (∀ m ∈ rs, ∀ a, μ1[m]? = some a → μ2[renOf S.length L m]? = some a) ∧ RepS K H1 μ2 (keepS S S1 L) := by
  unfold keepC at hc
  obtain ⟨hc, c5⟩ := Bool.and_eq_true_iff.mp hc
  obtain ⟨hc, c4⟩ := Bool.and_eq_true_iff.mp hc
  obtain ⟨hc, c3⟩ := Bool.and_eq_true_iff.mp hc
  obtain ⟨hc, c2⟩ := Bool.and_eq_true_iff.mp hc
  obtain ⟨c0, c1⟩ := Bool.and_eq_true_iff.mp hc
  have e2 : ∀ m ∈ rs, m < S.length ∨ m ∈ L := fun m hm => by
    have := List.all_eq_true.mp c2 m hm
    simpa using this
  have e1 : ∀ k ∈ L, ∀ c, S1[k]? = some c → ∀ m ∈ c.refs, m < S.length ∨ m ∈ L := fun k hk c hc m hm => by
    have := List.all_eq_true.mp c1 m (List.mem_flatMap.mpr ⟨k, hk, by rw [hc]; exact hm⟩)
    simpa using this
  have hE : ∀ n, n < S.length → ∀ c, S1[n]? = some c → ∀ m ∈ c.refs, m < S.length ∨ m ∈ L := fun n hn c h m hm => by
    by_cases hs : S[n]? = some c
    · obtain ⟨a, ha, rc⟩ := r0.at hs
      left
      rw [← r0.len]
      exact rc.lt m hm
    · exact e2 m (hr m (chg_mem h hn hs m hm))
  obtain ⟨μ2, ⟨t, e⟩, at2, r⟩ := keep_cells (L := L) r0.len le r1 (of_decide_eq_true c0) hE (fun k hk => ⟨by simpa using List.all_eq_true.mp c4 k hk, by simpa using List.all_eq_true.mp c5 k hk⟩) (of_decide_eq_true c3) e1
  refine ⟨μ2, ⟨⟨t, e⟩, le.tup, le.fz⟩, fun m hm => at2 m (e2 m hm), ?_⟩
  unfold keepS
  rw [keepE_eq (of_decide_eq_true c0) fun n c h1 _ => ?_]
  · exact r
  · obtain ⟨a, ha, rc⟩ := r0.at h1
    refine Cell.ren_id fun m hm => ?_
    unfold renOf
    rw [if_pos (by rw [← r0.len]; exact rc.lt m hm)]
theorem fin_ok {d : D} {v : V} (r0 : RepS K H μ S) (le : Le K μ H μ1 H1) (r1 : RepS K H1 μ1 S1) (rv : RepV K H1 μ1 d v) : ∃ d2 S2 μ2, fin S d S1 = .ok d2 S2 ∧ Le K μ H μ2 H1 ∧ RepS K H1 μ2 S2 ∧ RepV K H1 μ2 d2 v := by
  unfold fin
  simp only
  split
  case isTrue hc =>
    obtain ⟨μ2, le2, at2, r⟩ := keep_ok r0 le r1 hc fun m hm => List.mem_append_right _ hm
    exact ⟨_, _, μ2, rfl, le2, r, rv.ren fun m hm => at2 m (List.mem_append_left _ hm)⟩
  case isFalse => exact ⟨d, S1, μ1, rfl, le, r1, rv⟩
theorem finX_ok (r0 : RepS K H μ S) (le : Le K μ H μ1 H1) (r1 : RepS K H1 μ1 S1) : ∃ μ2, Le K μ H μ2 H1 ∧ RepS K H1 μ2 (finX S S1) := by
  unfold finX
  simp only
  split
  case isTrue hc =>
    obtain ⟨μ2, le2, _, r⟩ := keep_ok r0 le r1 hc fun m hm => hm
    exact ⟨μ2, le2, r⟩
  case isFalse => exact ⟨μ1, le, r1⟩
/-! ### defs -/
/-- a def of the text: its name, its statement, its names by slot, its parameters, its body in the engine -/
structure FText where
  x : Str
  q : Str
  k : FK
  st : Stmt
  N : List Str
  ps : List Str
  fn : Fn
def scopeC (N P : List Str) (sc : Scope) : Bool :=
  (match sc.kind with | .function => true | _ => false) && !sc.isCoroutine && !sc.isGenerator && decide N.Nodup && decide (N.take P.length = P) &&
    (P.all fun x => decide (sc.names.lookup x = some .local) || decide (sc.names.lookup x = some .cell)) && (sc.names.all fun y => decide (y.2 ≠ .free))
theorem scope_of {N P : List Str} {sc : Scope} (h : scopeC N P sc = true) : FnScope N P sc := by
  obtain ⟨h, h7⟩ := Bool.and_eq_true_iff.mp h
  obtain ⟨h, h6⟩ := Bool.and_eq_true_iff.mp h
  obtain ⟨h, h5⟩ := Bool.and_eq_true_iff.mp h
  obtain ⟨h, h4⟩ := Bool.and_eq_true_iff.mp h
  obtain ⟨h, h3⟩ := Bool.and_eq_true_iff.mp h
  obtain ⟨h1, h2⟩ := Bool.and_eq_true_iff.mp h
  refine ⟨?_, by simpa using h2, by simpa using h3, of_decide_eq_true h4, of_decide_eq_true h5, fun x hx => ?_, fun y hy => ?_⟩
  · split at h1
    · assumption
    · cases h1
  · simpa using List.all_eq_true.mp h6 x hx
  · simpa using List.all_eq_true.mp h7 y hy
def gamOf (fs : List FK) (glb : List (Str × GC)) (blt : List Str) (exs : List Str) (isa : List (Str × List Bool)) (atr : List (Str × Str)) (t : FText) : Gam := ⟨t.N, defScope t.st, fun _ => true, true, fs, atr, glb, blt, exs, isa, false⟩
def textC (fs : List FK) (glb : List (Str × GC)) (blt : List Str) (exs : List Str) (isa : List (Str × List Bool)) (atr : List (Str × Str)) (t : FText) : Bool :=
  match t.k with
  | .mk c => (match t.fn.ctor with
    | some (c', g) => decide (c' = c) && decide (fs[g]? = some (.me c "__init__"))
    | none => false)
  | _ => t.fn.ctor.isNone && (scopeC t.N t.ps (defScope t.st) && decide (t.fn.np = t.ps.length) && decide (t.fn.nl = t.N.length) && (chkC t.fn.body (gamOf fs glb blt exs isa atr t)).b (defBody t.st))
theorem isa_ref {K : PySem.W.Frag} {t : Value} {C : Addr} {b : Bool} (hd : PySem.W.hasDictIn K C = true) (ht : PySem.W.typeIn K (.ref C) = some (.type "type")) (hs : PySem.W.subIn K (.ref C) (.type "BaseException") = some true) (hr : PySem.W.subIn K (.ref C) (.ref C) = some true)
    (h4 : PySem.W.subIn K t (.ref C) = some b) : PySem.W.kitOne K t (.ref C) = some b ∧ PySem.W.exmOne K t (.ref C) = some b := by
  have h := PySem.W.exm_ref hs hd ht h4
  refine ⟨?_, h⟩
  unfold PySem.W.exmOne at h
  rw [if_pos (by rw [hs] <;> rfl)] at h
  unfold PySem.W.kitOne
  by_cases e : (t == Value.ref C) = true
  · rw [if_pos e]
    have e1 : t = .ref C := beq_iff_eq.mp e
    subst e1
    rw [hr] at h4
    exact h4
  · rw [if_neg e]
    exact h
theorem isa_ty {K : PySem.W.Frag} {C : Addr} {T : String} {b : Bool} (hm : PySem.W.kitMeta T = true) (hs : PySem.W.subIn K (.type T) (.type "BaseException") = some true) (h4 : PySem.W.subIn K (.ref C) (.type T) = some b) :
    PySem.W.kitOne K (.ref C) (.type T) = some b ∧ PySem.W.exmOne K (.ref C) (.type T) = some b := by
  have h : PySem.W.kitCls K (.ref C) (.type T) = some b := by
    show (if PySem.W.kitMeta T = true then PySem.W.subIn K (.ref C) (.type T) else none) = some b
    rw [if_pos hm]
    exact h4
  constructor
  · unfold PySem.W.kitOne
    rw [if_neg (by simp)]
    exact h
  · unfold PySem.W.exmOne
    rw [if_pos (by rw [hs] <;> rfl)]
    exact h
/-- the classes of the exceptions, by number -/
def gamX (exs : List Str) (K : PySem.W.Frag) (c : Nat) : Value := match exs[c]? with
  | some x => (match PySem.W.nsIn K mainGlobals x with
    | some (some v) => v
    | _ => .none)
  | none => .none
/-- what stands behind a def's key -/
def FactT (K : PySem.W.Frag) (mg : Str → Option Value) (t : FText) : Prop := match t.k with
  | .fn x => ∃ addr fd, Fun K t.x t.q t.st addr fd ∧ mg x = some (.ref addr) ∧ PySem.W.keepIn K (.ref addr) = true ∧ Binds K fd t.ps []
  | .me c m => ∃ addr fd C, Fun K t.x t.q t.st addr fd ∧ PySem.W.nsIn K mainGlobals c = some (some (.ref C)) ∧ Cls K C ∧ Meth K C m addr ∧ Binds K fd t.ps []
  | .mk c => ∃ addr C, PySem.W.nsIn K mainGlobals c = some (some (.ref C)) ∧ mg c = some (.ref C) ∧ Mk K C addr
theorem FactT.of_fn {K : PySem.W.Frag} {mg : Str → Option Value} {t : FText} {x : Str} {addr : Addr} {fd : FuncData} (hk : t.k = .fn x) (F : Fun K t.x t.q t.st addr fd) (hm : mg x = some (.ref addr)) (h : PySem.W.keepIn K (.ref addr) = true) (hb : Binds K fd t.ps []) : FactT K mg t := by
  unfold FactT; rw [hk]; exact ⟨_, _, F, hm, h, hb⟩
theorem FactT.of_me {K : PySem.W.Frag} {mg : Str → Option Value} {t : FText} {c m : Str} {addr C : Addr} {fd : FuncData} (hk : t.k = .me c m) (F : Fun K t.x t.q t.st addr fd) (hc : PySem.W.nsIn K mainGlobals c = some (some (.ref C))) (cl : Cls K C) (h : Meth K C m addr) (hb : Binds K fd t.ps []) : FactT K mg t := by
  unfold FactT; rw [hk]; exact ⟨_, _, _, F, hc, cl, h, hb⟩
theorem FactT.of_mk {K : PySem.W.Frag} {mg : Str → Option Value} {t : FText} {c : Str} {addr C : Addr} (hk : t.k = .mk c) (hc : PySem.W.nsIn K mainGlobals c = some (some (.ref C))) (hm : mg c = some (.ref C)) (h : Mk K C addr) : FactT K mg t := by
  unfold FactT; rw [hk]; exact ⟨_, _, hc, hm, h⟩
/-- what stands behind the top -/
structure Facts (w : World) (K : PySem.W.Frag) (mg : Str → Option Value) (γ : Nat → Value) (Ts : List FText) (glb : List (Str × GC)) (blt : List Str) (exs : List Str) (isa : List (Str × List Bool)) (atr : List (Str × Str)) : Prop where
  fns : ∀ t ∈ Ts, FactT K mg t
  glb : ∀ p ∈ glb, GOk K w mg p.1 p.2
  blt : ∀ x ∈ blt, mg x = none
  exs : ∀ c x, exs[c]? = some x → ExcF K mg γ c x
  isa : ∀ p ∈ isa, Isa K mg γ p.1 p.2
  atr : ∀ p ∈ atr, ∃ C, PySem.W.nsIn K mainGlobals p.1 = some (some (.ref C)) ∧ Cls K C ∧ NoAttr K C p.2
/-- a written dict's item, by its entries -/
theorem kv_entries {K : PySem.W.Frag} {a : Addr} {n : Nat} : ∀ {es : List DictEntry} {kvs : List (Str × D)}, es.length = kvs.length → (∀ (i : Nat) e p, es[i]? = some e → kvs[i]? = some p → (∃ t, e.key = .str p.1 t) ∧ ∃ v, RelV v e.val ∧ ∀ H μ, RepV K H μ p.2 v) → ∀ z,
    match kvs.lookup z with
    | some d => ∃ e, es.find? (·.key.isStr z) = some e ∧ ∃ v, RelV v e.val ∧ ∀ H μ, RepV K H μ d v
    | none => es.find? (·.key.isStr z) = none ∧ es.any (·.refKey) = false
  | [], [], _, _, z => by simp
  | e :: es, p :: kvs, hl, h, z => by
    obtain ⟨⟨t, ht⟩, hv⟩ := h 0 e p rfl rfl
    have ih := kv_entries (K := K) (a := a) (n := n) (es := es) (kvs := kvs) (by simpa using hl) (fun i e p h1 h2 => h (i + 1) e p h1 h2) z
    have hk : e.key.isStr z = (p.1 == z) := by rw [ht]; rfl
    have hr : e.refKey = false := by unfold DictEntry.refKey; rw [ht]
    rw [List.lookup_cons]
    by_cases hz : z = p.1
    · subst hz
      rw [beq_self_eq_true, List.find?_cons, hk, beq_self_eq_true]
      exact ⟨e, rfl, hv⟩
    · have h1 : (z == p.1) = false := beq_eq_false_iff_ne.mpr hz
      have h2 : (p.1 == z) = false := beq_eq_false_iff_ne.mpr (Ne.symm hz)
      rw [h1, List.find?_cons, hk, h2, List.any_cons, hr, Bool.false_or]
      exact ih
  | [], _ :: _, hl, _, _ => by simp at hl
  | _ :: _, [], hl, _, _ => by simp at hl
theorem kvAt_of {K : PySem.W.Frag} {a : Addr} {es : Array DictEntry} {n : Nat} (hl : K.lookup a = some ⟨.type "dict", none, .dict es n, #[]⟩) {kvs : List (Str × D)} (hn : es.toList.length = kvs.length)
    (h : ∀ (i : Nat) e p, es.toList[i]? = some e → kvs[i]? = some p → (∃ t, e.key = .str p.1 t) ∧ ∃ v, RelV v e.val ∧ ∀ H μ, RepV K H μ p.2 v) (z : Str) : KvAt K a z (kvs.lookup z) := by
  have := kv_entries (K := K) (a := a) (n := n) hn h z
  cases e : kvs.lookup z with
  | none =>
    rw [e] at this
    obtain ⟨h1, h2⟩ := this
    show PySem.W.nsIn K a z = some none
    unfold PySem.W.nsIn
    rw [hl]
    simp only [h1, h2]
    rfl
  | some d =>
    rw [e] at this
    obtain ⟨en, h1, v, h2, h3⟩ := this
    refine ⟨en.val, v, ?_, h2, h3⟩
    unfold PySem.W.nsIn
    rw [hl]
    simp only [h1]
theorem call_len {Fs : List Fn} {k f : Nat} {fn : Fn} (hf : Fs[f]? = some fn) (hm : fn.ctor = none) {ds : List D} {S : Store} (h : callN Fs k f ds S ≠ .bad) : ds.length = fn.np := by
  cases k with
  | zero => exact absurd rfl h
  | succ k =>
    unfold callN at h
    rw [hf] at h
    simp only [hm] at h
    split at h
    · assumption
    · exact absurd rfl h
theorem repE_start {K : PySem.W.Frag} {H : Hp} {μ : Mu} {ds : List D} {vs : List V} (r : RepVs K H μ ds vs) (N : List Str) (hl : ds.length ≤ N.length) : RepE K H μ (start N vs) (ds.map some ++ List.replicate (N.length - ds.length) none) := by
  have hv := r.length
  refine ⟨by simp [L2.start, hv], fun i d h => ?_⟩
  by_cases hi : i < ds.length
  · rw [List.getElem?_append_left (by simpa using hi), List.getElem?_map] at h
    cases e : ds[i]? with
    | none => rw [e] at h; cases h
    | some d' =>
      rw [e] at h
      cases h
      obtain ⟨v, h1, h2⟩ := r.get e
      refine ⟨v, ?_, h2⟩
      unfold L2.start
      rw [List.getElem?_append_left (by simpa [hv] using hi), List.getElem?_map, h1]
      rfl
  · rw [List.getElem?_append_right (by simpa using hi), List.getElem?_replicate] at h
    split at h <;> cases h
theorem text_parts {fs : List FK} {glb : List (Str × GC)} {blt : List Str} {exs : List Str} {isa : List (Str × List Bool)} {atr : List (Str × Str)} {t : FText} (h : textC fs glb blt exs isa atr t = true) (hk : ∀ c, t.k ≠ .mk c) :
    t.fn.ctor = none ∧ scopeC t.N t.ps (defScope t.st) = true ∧ t.fn.np = t.ps.length ∧ t.fn.nl = t.N.length ∧ (chkC t.fn.body (gamOf fs glb blt exs isa atr t)).b (defBody t.st) = true := by
  unfold textC at h
  split at h
  case h_1 c e => exact absurd e (hk c)
  case h_2 =>
    obtain ⟨h0, h⟩ := Bool.and_eq_true_iff.mp h
    obtain ⟨h, c4⟩ := Bool.and_eq_true_iff.mp h
    obtain ⟨h, c3⟩ := Bool.and_eq_true_iff.mp h
    obtain ⟨c1, c2⟩ := Bool.and_eq_true_iff.mp h
    exact ⟨Option.isNone_iff_eq_none.mp h0, c1, of_decide_eq_true c2, of_decide_eq_true c3, c4⟩
theorem fn_all {prog : Program} {w : World} {K : PySem.W.Frag} {mg : Str → Option Value} {base : Heap} {Ts : List FText} {glb : List (Str × GC)} {blt : List Str} {exs : List Str} {isa : List (Str × List Bool)} {atr : List (Str × Str)} {γ : Nat → Value} (F : Facts w K mg γ Ts glb blt exs isa atr)
    (hC : (Ts.all (textC (Ts.map (·.k)) glb blt exs isa atr)) = true) : ∀ (k : Nat) (f : Nat) (t : FText), Ts[f]? = some t → (∀ c, t.k ≠ .mk c) → ∀ addr fd, Fun K t.x t.q t.st addr fd →
      FnOk prog w K mg base (L2.CX prog w) k addr fd t.ps (spF K γ (callN (Ts.map (·.fn)) k) t.ps.length f) := by
  intro k
  induction k using Nat.strongRecOn with
  | _ k ih =>
  cases k with
  | zero =>
    intro f t ht hk addr fd Fu
    exact ⟨fun vs H Q E h => h.1, fun A outer s H args us vs Q E hr e0 hb r ⟨_, μ, S, ds, _, _, h⟩ => h.elim⟩
  | succ k =>
    intro f t ht hk addr fd Fu
    obtain ⟨c0, c1, hnp, hnl, c4⟩ := text_parts (List.all_eq_true.mp hC t (List.mem_of_getElem? ht)) hk
    have sc := scope_of c1
    refine Fu.okX sc (fun vs H Q E h => h.1) fun cdv A outer s H vs Q E hr ⟨hl, μ, S, ds, rS, rv, h⟩ => ?_
    have hpl : t.ps.length ≤ t.N.length := by
      have := congrArg List.length sc.pre
      rw [List.length_take] at this
      omega
    have hds : ds.length = t.ps.length := by rw [← rv.length]; exact hl
    have fnp : ∀ (j : Nat), j < k + 1 → ∀ (g : Nat) (u : FText), Ts[g]? = some u → (∀ c, u.k ≠ .mk c) → ∀ ad fd2, Fun K u.x u.q u.st ad fd2 → Binds K fd2 u.ps [] → FnP prog w K mg base γ (callN (Ts.map (·.fn)) j) g j ad fd2 u.ps := fun j hj g u hg hu ad fd2 F1 F4 => by
      obtain ⟨d0, d1, d2, d3, d4⟩ := text_parts (List.all_eq_true.mp hC u (List.mem_of_getElem? hg)) hu
      refine ⟨ih j hj g u hg hu ad fd2 F1, fun ds S hb => ?_, F4⟩
      rw [← d2]
      exact call_len (fn := u.fn) (by rw [List.getElem?_map, hg]; rfl) d0 hb
    have G : GoodS (cxOf (L2.CX prog w) prog w K mg base t.N t.q (defScope t.st) addr cdv A outer s H E) (gamOf (Ts.map (·.k)) glb blt exs isa atr t) γ (fun cls d _ H => E cls d H) (callN (Ts.map (·.fn)) k) := {
      N := rfl
      nd := sc.nd
      sc := rfl
      fn := fun _ _ => rfl
      calm := fun _ => rfl
      un := Nat.lt_of_le_of_lt (Nat.le_trans (Nat.add_le_add_left (by decide) _) (Nat.add_le_add_right (Nat.le_add_right _ (16 * k)) 200)) hr.un
      glb := fun x d h => F.glb (x, d) (PySem.mem_of_lookup h)
      blt := fun x h => F.blt x (List.contains_iff_mem.mp (show blt.contains x = true from h))
      tk := takes_of rfl rfl rfl rfl
      fns := fun _ g q hg => by
        have hg' : (Ts.map (·.k))[g]? = some q := hg
        rw [List.getElem?_map] at hg'
        cases e : Ts[g]? with
        | none => rw [e] at hg'; cases hg'
        | some u =>
          rw [e] at hg'
          have hx : u.k = q := Option.some.inj hg'
          have Fu2 := F.fns u (List.mem_of_getElem? e)
          unfold FactT at Fu2
          rw [hx] at Fu2
          cases q with
          | fn x =>
            obtain ⟨ad, fd2, F1, F2, F3, F4⟩ := Fu2
            exact ⟨k, ad, fd2, u.ps, fnp k (Nat.lt_succ_self k) g u e (fun c z => by rw [hx] at z; cases z) ad fd2 F1 F4, hr, F2, F3⟩
          | me c m =>
            obtain ⟨ad, fd2, C, F1, F2, F3, F4, F5⟩ := Fu2
            exact ⟨k, ad, fd2, u.ps, C, fnp k (Nat.lt_succ_self k) g u e (fun c z => by rw [hx] at z; cases z) ad fd2 F1 F5, hr, F2, F3, F4⟩
          | mk c =>
            obtain ⟨ad, C, F1, F2, F3⟩ := Fu2
            refine ⟨C, ad, F1, F2, F3, ?_⟩
            have hu := List.all_eq_true.mp hC u (List.mem_of_getElem? e)
            unfold textC at hu
            rw [hx] at hu
            simp only at hu
            split at hu
            case h_2 => cases hu
            case h_1 c' g' ec =>
              obtain ⟨h1, h2⟩ := Bool.and_eq_true_iff.mp hu
              have e1 := of_decide_eq_true h1
              subst e1
              have e2 := of_decide_eq_true h2
              rw [List.getElem?_map] at e2
              cases e3 : Ts[g']? with
              | none => rw [e3] at e2; cases e2
              | some v =>
                rw [e3] at e2
                have hv : v.k = .me c' "__init__" := Option.some.inj e2
                have Fv := F.fns v (List.mem_of_getElem? e3)
                unfold FactT at Fv
                rw [hv] at Fv
                obtain ⟨ad2, fd3, C2, V1, V2, V3, V4, V5⟩ := Fv
                have : C2 = C := by
                  have := V2.symm.trans F1
                  cases this; rfl
                subst this
                have : ad2 = ad := by
                  have := V4.at_.symm.trans F3.init
                  cases this; rfl
                subst this
                cases k with
                | zero => exact .inl fun ds S => rfl
                | succ k =>
                  refine .inr ⟨k, fd3, v.ps, g', callN (Ts.map fun (t : FText) => t.fn) k, fun ds S => ?_, fnp k (by omega) g' v e3 (fun c z => by rw [hv] at z; cases z) ad2 fd3 V1 V5, hr⟩
                  show (match (Ts.map (·.fn))[g]? with | some fn => _ | none => _) = _
                  rw [List.getElem?_map, e]
                  show (match u.fn.ctor with | some (c, g) => _ | none => _) = _
                  rw [ec]
      atr := fun c f h => F.atr (c, f) (List.contains_iff_mem.mp (show atr.contains (c, f) = true from h))
      own := passes_of rfl
      stk := rfl
      frm := rfl
      exs := F.exs
      isa := fun y tbl h => F.isa (y, tbl) (PySem.mem_of_lookup h)
      hot := fun h => nomatch h }
    refine ⟨_, (ss_all t.fn.body G).b _ c4, μ, ds.map some ++ List.replicate (t.fn.nl - ds.length) none, S, ⟨by rw [hnl]; exact repE_start rv t.N (by rw [hds]; exact hpl), rS⟩, ?_⟩
    have hcall : callN (Ts.map (·.fn)) (k + 1) f ds S = finO S (run (callN (Ts.map (·.fn)) k) t.fn.body (ds.map some ++ List.replicate (t.fn.nl - ds.length) none) S) := by
      show (match (Ts.map (·.fn))[f]? with | some fn => _ | none => _) = _
      rw [List.getElem?_map, ht]
      show (match t.fn.ctor with | some (c, g) => _ | none => _) = _
      rw [c0]
      show (if ds.length = t.fn.np then _ else _) = _
      rw [if_pos (by rw [hds, hnp])]
    rw [hcall] at h
    show PostO K γ (fun cls d _ H => E cls d H) μ H (run (callN (Ts.map (·.fn)) k) t.fn.body (ds.map some ++ List.replicate (t.fn.nl - ds.length) none) S) _
    cases e : run (callN (Ts.map (·.fn)) k) t.fn.body (ds.map some ++ List.replicate (t.fn.nl - ds.length) none) S with
    | nx ρ' S' =>
      rw [e] at h
      intro μ1 H1 σ1 le s1
      obtain ⟨d2, S2, μ2, e1, le2, r2, rv2⟩ := fin_ok (d := .non) rS le s1.s .non
      simp only [finO] at h
      rw [e1] at h
      exact h μ2 .non H1 le2 r2 rv2
    | ret d S' =>
      rw [e] at h
      intro μ1 H1 v le r1 rv1
      obtain ⟨d2, S2, μ2, e1, le2, r2, rv2⟩ := fin_ok rS le r1 rv1
      simp only [finO] at h
      rw [e1] at h
      exact h μ2 v H1 le2 r2 rv2
    | exc c fs ρ' S' =>
      rw [e] at h
      intro μ1 H1 σ1 dx le s1 xd
      have h : ∀ μ' H' d, Le K μ H μ' H' → RepS K H' μ' (if fs.isEmpty = true then finX S S' else S') → XD K H' μ' fs d → E (γ c) d H' := h
      cases fs with
      | cons q fs => exact h μ1 H1 dx le s1.s xd
      | nil =>
        have xd' : ∀ μ, XD K H1 μ [] dx := fun μ => by
          rcases xd with ⟨_, h2⟩ | ⟨z, _⟩
          · exact .inl ⟨rfl, h2⟩
          · exact absurd rfl z
        obtain ⟨μ2, le2, r2⟩ := finX_ok rS le s1.s
        exact h μ2 H1 dx le2 r2 (xd' _)
    | bk => rw [e] at h; exact h.elim
    | ct => rw [e] at h; exact h.elim
    | bad => rw [e] at h; exact h.elim
/-! ### the end of a law -/
theorem only_ro {K : PySem.W.Frag} {H : Hp} {a : Addr} {vs : List V} (hO : Only H) (h : SqL K H a vs) : RoL K H a vs := by
  rcases h with (h | h) | h
  · rcases hO a with z | ⟨o, xs, z⟩
    · rw [h] at z; cases z
    · rw [h] at z; cases z
  · exact .inl h
  · exact .inr h
theorem reps_ints {K : PySem.W.Frag} {H : Hp} {μ : Mu} : ∀ ns : List Int, RepVs K H μ (ns.map D.int) (ns.map V.int)
  | [] => .nil
  | n :: ns => .cons (.int n) (reps_ints ns)
theorem law_sp {K : PySem.W.Frag} {γ : Nat → Value} {P : Nat → List D → Store → R D} {f : Nat} (hlaw : ∀ ns : List Int, ns.length ≤ 63 → ∃ S', P f [.ref 0] [.ro (ns.map D.int)] = .ok (.bl true) S')
    (H : Hp) (a : Addr) (ns : List Int) (hl : ns.length ≤ 63) (hO : Only H) (hS : SqL K H a (ns.map V.int)) : spF K γ P 1 f [.ref a] H (fun v _ => v = .bl true) fun _ _ _ => False := by
  obtain ⟨S', e⟩ := hlaw ns hl
  refine ⟨rfl, [a], [.ro (ns.map D.int)], [.ref 0], ⟨rfl, fun n c b h1 h2 => ?_, fun m n b c e hmn h1 h2 h3 h4 => ?_⟩, .cons (.ref rfl) .nil, ?_⟩
  · cases n with
    | zero => cases h1; cases h2; exact ⟨_, only_ro hO hS, reps_ints ns⟩
    | succ n => simp at h1
  · cases m with
    | zero => cases h3; exact .inl rfl
    | succ m => simp at h3
  · rw [e]
    intro μ' v H' _ _ r
    cases r
    rfl
theorem law_walk {l : PySem.W.OpenLaw} {q : Program} {loose : List Str} {XP : (Str → Option Value) → Heap → Prop} {YP : World → Heap → Prop} {d : DefRec} {K : Params → PySem.W.Frag} {γ : PySem.W.Frag → Nat → Value} {Ts : List FText} {glb : List (Str × GC)} {blt : List Str} {exs : List Str} {isa : List (Str × List Bool)} {atr : List (Str × Str)} {x : Str}
    {k f : Nat} {t : FText} (hn : l.most = some 63) (hdf : d.params.defaults = []) (hr : Room k callerA) (hY : ∀ (w : World) (h : Heap), YP w h → (K w.params).In h) (hC : (Ts.all (textC (Ts.map (·.k)) glb blt exs isa atr)) = true) (ht : Ts[f]? = some t) (hk : ∀ c, t.k ≠ .mk c) (hp : t.ps = [x])
    (F : ∀ (w : World) (mg : Str → Option Value) (fa : Addr) (h : Heap), (K w.params).In h → h.Ns mainGlobals mg → mg d.name = some (.ref fa) →
      Facts w (K w.params) mg (γ (K w.params)) Ts glb blt exs isa atr ∧ ∃ fd, Fun (K w.params) t.x t.q t.st fa fd ∧ ∀ (s : Shared) (u : Value), BindsTo s fd ⟨[u], []⟩ [(x, u)])
    (hlaw : ∀ ns : List Int, ns.length ≤ 63 → ∃ S', callN (Ts.map (·.fn)) k f [.ref 0] [.ro (ns.map D.int)] = .ok (.bl true) S') :
    PySem.W.WalkO q loose XP YP l.row.toRowW d [] (fun f vs => PySem.call f vs) := by
  refine L2.walk_of (n := 63) (k := k) (x := x) (K := K) (CX := fun w => L2.CX l.prog w) (sp := fun w => spF (K w.params) (γ (K w.params)) (callN (Ts.map (·.fn)) k) 1 f) hn (by decide) hdf hr hY (fun w mg fa h KX G hmg => ?_) (fun w H a ns hl hO hS => law_sp hlaw H a ns hl hO hS) fun w H s e s' ⟨_, _, _, _, _, _, _, _, _, _, _, _, z⟩ => z
  obtain ⟨F1, fd, Fu, hb⟩ := F w mg fa h KX G hmg
  refine ⟨fd, hb, fun base _ _ => ?_⟩
  have := fn_all (prog := l.prog) (w := w) (base := base) (γ := γ (K w.params)) F1 hC k f t ht hk fa fd Fu
  rw [hp] at this
  exact this
end
end Ng

set_option Elab.async false
set_option linter.all false
set_option maxRecDepth 100000
/-! Rewriting by the evaluator; loops by invariants. -/
namespace Ng
open PySem
/-- an equation that rewriting states in full -/
theorem ng {α : Sort u} {a b : α} (h : a = b) : a = b := by cases h; exact Eq.refl _
section
variable {P : Nat → List D → Store → R D} {ρ : Env} {S : Store} {α β : Type}
@[simp] theorem bind_ok {a : α} {k : α → Store → R β} : (R.ok a S).bind k = k a S := ng rfl
@[simp] theorem bind_exc {c fs} {k : α → Store → R β} : (R.exc c fs S : R α).bind k = .exc c fs S := ng rfl
@[simp] theorem bind_bad {k : α → Store → R β} : (R.bad : R α).bind k = .bad := ng rfl
@[simp] theorem of_ok {a : α} {k : α → Store → O} : O.of ρ (R.ok a S) k = k a S := ng rfl
@[simp] theorem of_exc {c fs} {k : α → Store → O} : O.of ρ (R.exc c fs S : R α) k = .exc c fs ρ S := ng rfl
@[simp] theorem seq_nx {k : Env → Store → O} : (O.nx ρ S).seq k = k ρ S := ng rfl
@[simp] theorem seq_ret {d} {k : Env → Store → O} : (O.ret d S).seq k = .ret d S := ng rfl
@[simp] theorem seq_ct {k : Env → Store → O} : (O.ct ρ S).seq k = .ct ρ S := ng rfl
@[simp] theorem seq_bk {k : Env → Store → O} : (O.bk ρ S).seq k = .bk ρ S := ng rfl
@[simp] theorem seq_exc {c fs} {k : Env → Store → O} : (O.exc c fs ρ S).seq k = .exc c fs ρ S := ng rfl
@[simp] theorem ev_var (i : Nat) : ev P (.var i) ρ S = varR i ρ S := ng rfl
@[simp] theorem ev_non : ev P .non ρ S = .ok .non S := ng rfl
@[simp] theorem ev_bl (b : Bool) : ev P (.bl b) ρ S = .ok (.bl b) S := ng rfl
@[simp] theorem ev_int (i : Int) : ev P (.int i) ρ S = .ok (.int i) S := ng rfl
@[simp] theorem ev_str (x : Str) : ev P (.str x) ρ S = .ok (.str x) S := ng rfl
@[simp] theorem ev_glb (x : Str) (d : D) : ev P (.glb x d) ρ S = .ok d S := ng rfl
@[simp] theorem ev_bin (o a b) : ev P (.bin o a b) ρ S = (ev P a ρ S).bind fun x S1 => (ev P b ρ S1).bind fun y S2 => bin2 o x y S2 := ng rfl
@[simp] theorem ev_neg (a) : ev P (.neg a) ρ S = (ev P a ρ S).bind negR := ng rfl
@[simp] theorem ev_cmp (o a b) : ev P (.cmp o a b) ρ S = (ev P a ρ S).bind fun x S1 => (ev P b ρ S1).bind fun y S2 => cmpR o x y S2 := ng rfl
@[simp] theorem ev_chain (o1 o2 a b c) : ev P (.chain o1 o2 a b c) ρ S = (ev P a ρ S).bind fun x S1 => (ev P b ρ S1).bind fun y S2 => chainV o1 o2 (ev P c ρ) x y S2 := ng rfl
@[simp] theorem ev_not (a) : ev P (.not a) ρ S = (ev P a ρ S).bind fun x S1 => (truR x S1).bind fun b S2 => .ok (.bl (!b)) S2 := ng rfl
@[simp] theorem ev_and (a b) : ev P (.and a b) ρ S = (ev P a ρ S).bind fun x S1 => andR (ev P b ρ) x S1 := ng rfl
@[simp] theorem ev_or (a b) : ev P (.or a b) ρ S = (ev P a ρ S).bind fun x S1 => orR (ev P b ρ) x S1 := ng rfl
@[simp] theorem ev_ite (c a b) : ev P (.ite c a b) ρ S = (tst P c ρ S).bind fun t S1 => bif t then ev P a ρ S1 else ev P b ρ S1 := ng rfl
@[simp] theorem ev_tup (a) : ev P (.tup a) ρ S = (evs P a ρ S).bind tupR := ng rfl
@[simp] theorem ev_lst (a) : ev P (.lst a) ρ S = (evs P a ρ S).bind lstR := ng rfl
@[simp] theorem ev_ix (a b) : ev P (.ix a b) ρ S = (ev P a ρ S).bind fun x S1 => (ev P b ρ S1).bind fun y S2 => ix2 x y S2 := ng rfl
@[simp] theorem ev_dd0 : ev P .dd0 ρ S = .ok (.ref S.length) (S ++ [.dct []]) := ng rfl
@[simp] theorem ev_dd1 (k v) : ev P (.dd1 k v) ρ S = (ev P k ρ (S ++ [.dct []])).bind fun x S1 => (ev P v ρ S1).bind fun y S2 => ddR S.length [(x, y)] S2 := ng rfl
@[simp] theorem ev_dd2 (k v k2 v2) : ev P (.dd2 k v k2 v2) ρ S = (ev P k ρ (S ++ [.dct []])).bind fun x S1 => (ev P v ρ S1).bind fun y S2 => (ev P k2 ρ S2).bind fun x2 S3 => (ev P v2 ρ S3).bind fun y2 S4 => ddR S.length [(x, y), (x2, y2)] S4 := ng rfl
@[simp] theorem ev_kdd (ks vs) : ev P (.kdd ks vs) ρ S = (evs P vs ρ (S ++ [.dk []])).bind fun ds S1 => kddR S.length ks ds S1 := ng rfl
@[simp] theorem ev_pop0 (o) : ev P (.pop0 o) ρ S = (ev P o ρ S).bind pop0R := ng rfl
theorem ev_lk (o e) : ev P (.lk o e) ρ S = lkR (ev P o ρ S) (ev P e ρ) S := ng rfl
@[simp] theorem run_fst2 (c f g o e) : run P (.fst2 c f g o e) ρ S = O.of ρ (ev P e ρ S) fun d S1 => fst2O c f g (ev P o) d ρ S1 := ng rfl
@[simp] theorem run_del (o i) : run P (.del o i) ρ S = O.of ρ (ev P o ρ S) fun x S1 => O.of ρ (ev P i ρ S1) fun j S2 => delO x j ρ S2 := ng rfl
@[simp] theorem evo_pop0 (o) : evo P (.pop0 o) ρ S = (ev P (.pop0 o) ρ S).bind optR := ng rfl
@[simp] theorem itr_pop0 (o) : itr P (.pop0 o) ρ S = (ev P (.pop0 o) ρ S).bind itD := ng rfl
@[simp] theorem itr_lk (o e) : itr P (.lk o e) ρ S = (ev P (.lk o e) ρ S).bind itD := ng rfl
theorem pop0_lst {n : Nat} {ds : List D} {d : D} (h : S[n]? = some (.lst (ds ++ [d]))) : pop0R (.ref n) S = .ok d (S.set n (.lst ds)) := by simp [pop0R, h]
theorem kdd_ok {n : Nat} {ks : List Str} {ds : List D} (h : S[n]? = some (.dk [])) (hl : ks.length = ds.length ∧ ks.Nodup ∧ ks.length ≤ 15) : kddR n ks ds S = .ok (.ref n) (S.set n (.dk ((ks.map Sum.inr).zip ds))) := by simp only [kddR, h, if_pos hl]
theorem ix_dk' {n : Nat} {kvs : List (L2.Key × D)} {z : Str} {d : D} (h : S[n]? = some (.dk kvs)) (hg : kGet kvs (.inr z) = some d) : ix2 (.ref n) (.str z) S = .ok d S := by simp only [ix2, h, hg]
theorem ist_dk {n : Nat} {kvs : List (L2.Key × D)} {z : Str} {d : D} (h : S[n]? = some (.dk kvs)) (hl : kvs.length < linesz) : istO d (.ref n) (.str z) ρ S = .nx ρ (S.set n (.dk (kPut kvs (.inr z) d))) := by simp only [istO, h, if_pos hl]
theorem del_dct {n : Nat} {kvs : List (List Int × D)} {ks : List D} {k : List Int} (h : S[n]? = some (.dct kvs)) (hk : intsD ks = some k) (hg : (dGet kvs k).isSome = true) : delO (.ref n) (.tup ks) ρ S = .nx ρ (S.set n (.dct (dDel kvs k))) := by simp only [delO, h, hk, if_pos hg]
theorem pop_dct {n : Nat} {kvs : List (List Int × D)} {ks : List D} {k : List Int} {d : D} (h : S[n]? = some (.dct kvs)) (hk : intsD ks = some k) (hg : dGet kvs k = some d) : meD .pop (.ref n) [.tup ks] S = .ok d (S.set n (.dct (dDel kvs k))) := by simp only [meD, h, keyI, hk, hg]
theorem popOk_dct {n : Nat} {kvs : List (List Int × D)} (h : S[n]? = some (.dct kvs)) : meOk .pop (.ref n) S = true := by simp only [meOk, h]
theorem get2_dct {n : Nat} {kvs : List (List Int × D)} {ks : List D} {k : List Int} {d : D} (h : S[n]? = some (.dct kvs)) (hk : intsD ks = some k) : meD .get2 (.ref n) [.tup ks, d] S = .ok ((dGet kvs k).getD d) S := by simp only [meD, h, keyI, hk]
theorem get2Ok_dct {n : Nat} {kvs : List (List Int × D)} (h : S[n]? = some (.dct kvs)) : meOk .get2 (.ref n) S = true := by simp only [meOk, h]
theorem len_dct {n : Nat} {kvs : List (List Int × D)} (h : S[n]? = some (.dct kvs)) : biD .len [.ref n] S = .ok (.int kvs.length) S := by simp [biD, seqD, dctN, h]
theorem prsD_map : ∀ ps : List (Int × Int), prsD (ps.map prD) = some ps
  | [] => rfl
  | p :: ps => by simp [prsD, prsD_map ps]
theorem sorted_lst {n : Nat} {ps : List (Int × Int)} (h : S[n]? = some (.lst (ps.map prD))) : biD .sorted [.ref n] S = .ok (.ref S.length) (S ++ [.lst ((srtP ps).map prD)]) := by simp only [biD, seqD, h, Option.bind_some, prsD_map]
theorem itD_hid {n : Nat} {kvs : List (List Int × D)} (h : S[n]? = some (.hid kvs)) : itD (.ref n) S = .ok ⟨kvs.map fun p => .tup (p.1.map D.int), none⟩ S := by simp only [itD, h]
theorem lk_ok {n : Nat} {kvs : List (List Int × D)} {S0 S2 : Store} {f : Store → R D} {d : D} (h : S[n]? = some (.dct kvs)) (hf : f (S.set n (.hid kvs)) = .ok d S2) (h2 : S2[n]? = some (.hid kvs)) : lkR (.ok (.ref n) S0) f S = .ok d (S2.set n (.dct kvs)) := by simp only [lkR, h, hf, if_pos h2]
@[simp] theorem ev_slc (a l h) : ev P (.slc a l h) ρ S = (ev P a ρ S).bind fun x S1 => (evo P l ρ S1).bind fun l S2 => (evo P h ρ S2).bind fun h S3 => slc2 x l h S3 := ng rfl
@[simp] theorem ev_call (f a) : ev P (.call f a) ρ S = (evs P a ρ S).bind fun ds S1 => P f ds S1 := ng rfl
@[simp] theorem ev_bi (f a) : ev P (.bi f a) ρ S = (evs P a ρ S).bind fun ds S1 => biD f ds S1 := ng rfl
@[simp] theorem ev_me (m o a) : ev P (.me m o a) ρ S = (ev P o ρ S).bind fun x S1 => bif meOk m x S1 then (evs P a ρ S1).bind fun ds S2 => meD m x ds S2 else .bad := ng rfl
@[simp] theorem ev_isi (a ts m) : ev P (.isi a ts m) ρ S = (ev P a ρ S).bind fun x S1 => isiR ts x S1 := ng rfl
@[simp] theorem ev_fld (c f a) : ev P (.fld c f a) ρ S = (ev P a ρ S).bind (fldR c f) := ng rfl
@[simp] theorem ev_mth (f c m o a) : ev P (.mth f c m o a) ρ S = (ev P o ρ S).bind fun x S1 => bif mthOk S1 c m x then (evs P a ρ S1).bind fun ds S2 => P f (x :: ds) S2 else .bad := ng rfl
@[simp] theorem ev_lc2 (own own2 tg src tg2 src2 elt) : ev P (.lc2 own own2 tg src tg2 src2 elt) ρ S = (itr P src ρ S).bind fun it S1 => lc2R own own2 tg tg2 (itr P src2) (ev P elt) ρ it S1 := ng rfl
@[simp] theorem tst_fld (c f a) : tst P (.fld c f a) ρ S = (ev P (.fld c f a) ρ S).bind truR := ng rfl
@[simp] theorem tst_mth (f c m o a) : tst P (.mth f c m o a) ρ S = (ev P (.mth f c m o a) ρ S).bind truR := ng rfl
@[simp] theorem itr_fld (c f a) : itr P (.fld c f a) ρ S = (ev P (.fld c f a) ρ S).bind itD := ng rfl
@[simp] theorem itr_mth (f c m o a) : itr P (.mth f c m o a) ρ S = (ev P (.mth f c m o a) ρ S).bind itD := ng rfl
@[simp] theorem evo_fld (c f a) : evo P (.fld c f a) ρ S = (ev P (.fld c f a) ρ S).bind optR := ng rfl
@[simp] theorem run_fst (c f o e) : run P (.fst c f o e) ρ S = O.of ρ (ev P e ρ S) fun d S1 => O.of ρ (ev P o ρ S1) fun x S2 => fstO c f d x ρ S2 := ng rfl
@[simp] theorem run_ist (o i e) : run P (.ist o i e) ρ S = O.of ρ (ev P e ρ S) fun d S1 => O.of ρ (ev P o ρ S1) fun x S2 => O.of ρ (ev P i ρ S2) fun j S3 => istO d x j ρ S3 := ng rfl
@[simp] theorem insOf_ins {n : Nat} {c : Str} {fs : List (Str × D)} (h : S[n]? = some (.ins c fs)) : insOf S c (.ref n) = some fs := by simp [insOf, h]
theorem fldR_ins {n : Nat} {c f : Str} {fs : List (Str × D)} {d : D} (h : S[n]? = some (.ins c fs)) (hf : fs.lookup f = some d) : fldR c f (.ref n) S = .ok d S := by simp [fldR, insOf_ins h, hf]
theorem mthOk_ins {n : Nat} {c m : Str} {fs : List (Str × D)} (h : S[n]? = some (.ins c fs)) (hf : fs.lookup m = none) : mthOk S c m (.ref n) = true := by simp [mthOk, insOf_ins h, hf]
theorem fstO_ins {n : Nat} {c f : Str} {fs : List (Str × D)} {d : D} (h : S[n]? = some (.ins c fs)) (hl : fs.length < 1000) : fstO c f d (.ref n) ρ S = .nx ρ (S.set n (.ins c (putD f d fs))) := by
  simp only [fstO, insOf_ins h, if_pos hl]
theorem istO_lst {n j : Nat} {xs : List D} {d : D} {k : Int} (h : S[n]? = some (.lst xs)) (hj : L2.ixN xs.length k = some j) : istO d (.ref n) (.int k) ρ S = .nx ρ (S.set n (.lst (xs.set j d))) := by
  simp only [istO, h, hj]
@[simp] theorem ev_lc (own tg src cond elt) : ev P (.lc own tg src cond elt) ρ S = (itr P src ρ S).bind fun it S1 => lcR own tg (tst P cond) (ev P elt) ρ it S1 := ng rfl
@[simp] theorem evs_nil : evs P .nil ρ S = .ok [] S := ng rfl
@[simp] theorem evs_cons (a as) : evs P (.cons a as) ρ S = (ev P a ρ S).bind fun x S1 => (evs P as ρ S1).bind fun xs S2 => .ok (x :: xs) S2 := ng rfl
@[simp] theorem evo_nil : evo P .nil ρ S = .ok none S := ng rfl
@[simp] theorem evo_int (i : Int) : evo P (.int i) ρ S = .ok (some i) S := ng rfl
@[simp] theorem evo_var (i : Nat) : evo P (.var i) ρ S = (varR i ρ S).bind optR := ng rfl
@[simp] theorem evo_bin (o a b) : evo P (.bin o a b) ρ S = (ev P (.bin o a b) ρ S).bind optR := ng rfl
@[simp] theorem evo_neg (a) : evo P (.neg a) ρ S = (ev P (.neg a) ρ S).bind optR := ng rfl
@[simp] theorem evo_bi (f a) : evo P (.bi f a) ρ S = (ev P (.bi f a) ρ S).bind optR := ng rfl
@[simp] theorem evo_ix (a b) : evo P (.ix a b) ρ S = (ev P (.ix a b) ρ S).bind optR := ng rfl
@[simp] theorem optR_int (i : Int) : optR (.int i) S = .ok (some i) S := ng rfl
@[simp] theorem itr_zp (a) : itr P (.zp a) ρ S = (evs P a ρ S).bind zipR := ng rfl
@[simp] theorem ev_bln (a) : ev P (.bln a) ρ S = (ev P a ρ S).bind blnR := ng rfl
@[simp] theorem ev_lrv (a) : ev P (.lrv a) ρ S = (ev P a ρ S).bind lrvR := ng rfl
@[simp] theorem zipR_tt (xs ys : List D) : zipR [.tup xs, .tup ys] S = .ok ⟨zipD xs ys, none⟩ S := ng rfl
@[simp] theorem zipR_lt {n : Nat} {xs ys : List D} (h : S[n]? = some (.lst xs)) : zipR [.ref n, .tup ys] S = .ok ⟨zipD xs ys, some (n, .lst xs)⟩ S := by simp [zipR, h]
@[simp] theorem itr_enm (a) : itr P (.enm a) ρ S = (evs P a ρ S).bind enmR := ng rfl
@[simp] theorem enmR_tup (xs : List D) : enmR [.tup xs] S = .ok ⟨enD 0 xs, none⟩ S := ng rfl
theorem enmR_lst {n : Nat} {xs : List D} (h : S[n]? = some (.lst xs)) : enmR [.ref n] S = .ok ⟨enD 0 xs, some (n, .lst xs)⟩ S := by simp [enmR, h]
theorem sorted_dct {n : Nat} {kvs : List (List Int × D)} {ps : List (Int × Int)} (h : S[n]? = some (.dct kvs)) (hk : prsK (kvs.map (·.1)) = some ps) : biD .sorted [.ref n] S = .ok (.ref S.length) (S ++ [.lst ((srtP ps).map prD)]) := by simp [biD, seqD, dctPs, h, hk]
@[simp] theorem ev_fjs (as) : ev P (.fjs as) ρ S = (evj P as Str.empty ρ S).bind fun y S1 => .ok (.str y) S1 := ng rfl
@[simp] theorem evj_nil (acc) : evj P .nil acc ρ S = .ok acc S := ng rfl
@[simp] theorem evj_cons (a as acc) : evj P (.cons a as) acc ρ S = (ev P a ρ S).bind fun x S1 => catJ acc x S1 fun acc' => evj P as acc' ρ := ng rfl
@[simp] theorem ev_fmt (a) : ev P (.fmt a) ρ S = (ev P a ρ S).bind fmtR := ng rfl
@[simp] theorem ev_sm (m o a) : ev P (.sm m o a) ρ S = (ev P o ρ S).bind fun x S1 => bif isS x then (ev P a ρ S1).bind fun y S2 => smR m x y S2 else .bad := ng rfl
@[simp] theorem ev_sm0 (m o) : ev P (.sm0 m o) ρ S = (ev P o ρ S).bind (sm0R m) := ng rfl
@[simp] theorem tst_sm (m o a) : tst P (.sm m o a) ρ S = (ev P (.sm m o a) ρ S).bind truR := ng rfl
@[simp] theorem isS_str (x : Str) : isS (.str x) = true := ng rfl
theorem fmtR_str {y : Str} (h : y.length ≤ linesz) : fmtR (.str y) S = .ok (.str y) S := if_pos h
theorem fmtR_int {i : Int} (h : i.natAbs.log2 < 1920) : fmtR (.int i) S = .ok (.str (toString i)) S := if_pos h
theorem catJ_str {acc y : Str} {k : Str → Store → R Str} (h : (acc ++ y).length ≤ linesz) : catJ acc (.str y) S k = k (acc ++ y) S := if_pos h
theorem smR_split {a b : Str} (h : (b.length == 0) = false) (h2 : a.length + 2 ≤ linesz) : smR .split (.str a) (.str b) S = .ok (.ref S.length) (S ++ [.lst ((Txt.split a b).map D.str)]) := if_pos ⟨h, h2⟩
@[simp] theorem smR_starts (a b : Str) : smR .startswith (.str a) (.str b) S = .ok (.bl (Txt.startswith a b)) S := ng rfl
theorem strsD_map : ∀ ys : List Str, strsD (ys.map D.str) = some ys
  | [] => rfl
  | y :: ys => by simp [strsD, strsD_map ys]
theorem smR_join {a : Str} {n : Nat} {ys : List Str} (h : S[n]? = some (.lst (ys.map D.str))) (h2 : (ys.map (·.length)).sum + ys.length * a.length ≤ 16777216) : smR .join (.str a) (.ref n) S = .ok (.str (Txt.join a ys)) S := by
  simp only [smR, seqD, h, Option.bind_some, strsD_map, if_pos h2]
@[simp] theorem run_any : run P .any ρ S = .bad := ng rfl
@[simp] theorem ev_gix (x kvs a) : ev P (.gix x kvs a) ρ S = (ev P a ρ S).bind (gixR kvs) := ng rfl
theorem gixR_int {kvs : List (Int × D)} {z : Int} {d : D} (h : kvs.lookup z = some d) : gixR kvs (.int z) S = .ok d S := by simp [gixR, h]
@[simp] theorem run_asg2 (i j e) : run P (.asg2 i j e) ρ S = O.of ρ (ev P e ρ S) fun d S1 => .nx ((ρ.set i (some d)).set j (some d)) S1 := ng rfl
@[simp] theorem ev_gdx (x kvs a) : ev P (.gdx x kvs a) ρ S = (ev P a ρ S).bind (gdxR kvs) := ng rfl
@[simp] theorem ev_gdin (x kvs neg a) : ev P (.gdin x kvs neg a) ρ S = (ev P a ρ S).bind (gdinR kvs neg) := ng rfl
@[simp] theorem tst_gdin (x kvs neg a) : tst P (.gdin x kvs neg a) ρ S = (ev P a ρ S).bind (gdinT kvs neg) := ng rfl
theorem gdxR_str {kvs : List (Str × D)} {z : Str} {d : D} (h : kvs.lookup z = some d) : gdxR kvs (.str z) S = .ok d S := by simp [gdxR, h]
@[simp] theorem gdinR_str (kvs : List (Str × D)) (neg : Bool) (z : Str) : gdinR kvs neg (.str z) S = .ok (.bl (if neg then !(kvs.lookup z).isSome else (kvs.lookup z).isSome)) S := ng rfl
@[simp] theorem gdinT_str (kvs : List (Str × D)) (neg : Bool) (z : Str) : gdinT kvs neg (.str z) S = .ok (if neg then !(kvs.lookup z).isSome else (kvs.lookup z).isSome) S := ng rfl
@[simp] theorem blnR_int (i : Int) : blnR (.int i) S = .ok (.int ((Builtin.Int.intBits i : Nat) : Int)) S := ng rfl
@[simp] theorem lrvR_lst {n : Nat} {ds : List D} (h : S[n]? = some (.lst ds)) : lrvR (.ref n) S = .ok (.ref S.length) (S ++ [.lst ds.reverse]) := by simp [lrvR, h]
@[simp] theorem itr_rng (a) : itr P (.rng a) ρ S = (evs P a ρ S).bind rngR := ng rfl
@[simp] theorem itr_var (i : Nat) : itr P (.var i) ρ S = (varR i ρ S).bind itD := ng rfl
@[simp] theorem itr_slc (a l h) : itr P (.slc a l h) ρ S = (ev P (.slc a l h) ρ S).bind itD := ng rfl
@[simp] theorem itr_call (f a) : itr P (.call f a) ρ S = (ev P (.call f a) ρ S).bind itD := ng rfl
@[simp] theorem itr_ix (a b) : itr P (.ix a b) ρ S = (ev P (.ix a b) ρ S).bind itD := ng rfl
@[simp] theorem itr_lst (a) : itr P (.lst a) ρ S = (ev P (.lst a) ρ S).bind itD := ng rfl
@[simp] theorem itr_tup (a) : itr P (.tup a) ρ S = (ev P (.tup a) ρ S).bind itD := ng rfl
@[simp] theorem itr_glb (x d) : itr P (.glb x d) ρ S = itD d S := ng rfl
@[simp] theorem itr_bin (o a b) : itr P (.bin o a b) ρ S = (ev P (.bin o a b) ρ S).bind itD := ng rfl
@[simp] theorem tst_not (a) : tst P (.not a) ρ S = (tst P a ρ S).bind fun b S1 => .ok (!b) S1 := ng rfl
@[simp] theorem tst_and (a b) : tst P (.and a b) ρ S = (tst P a ρ S).bind fun t S1 => bif t then tst P b ρ S1 else .ok false S1 := ng rfl
@[simp] theorem tst_or (a b) : tst P (.or a b) ρ S = (tst P a ρ S).bind fun t S1 => bif t then .ok true S1 else tst P b ρ S1 := ng rfl
@[simp] theorem tst_cmp (o a b) : tst P (.cmp o a b) ρ S = (ev P a ρ S).bind fun x S1 => (ev P b ρ S1).bind fun y S2 => cmpT o x y S2 := ng rfl
@[simp] theorem tst_chain (o1 o2 a b c) : tst P (.chain o1 o2 a b c) ρ S = (ev P a ρ S).bind fun x S1 => (ev P b ρ S1).bind fun y S2 => chainT o1 o2 (ev P c ρ) x y S2 := ng rfl
@[simp] theorem tst_var (i : Nat) : tst P (.var i) ρ S = (varR i ρ S).bind truR := ng rfl
@[simp] theorem tst_bl (b : Bool) : tst P (.bl b) ρ S = .ok b S := ng rfl
@[simp] theorem tst_call (f a) : tst P (.call f a) ρ S = (ev P (.call f a) ρ S).bind truR := ng rfl
@[simp] theorem tst_bi (f a) : tst P (.bi f a) ρ S = (ev P (.bi f a) ρ S).bind truR := ng rfl
@[simp] theorem tst_isi (a ts m) : tst P (.isi a ts m) ρ S = (ev P (.isi a ts m) ρ S).bind truR := ng rfl
@[simp] theorem tst_ix (a b) : tst P (.ix a b) ρ S = (ev P (.ix a b) ρ S).bind truR := ng rfl
@[simp] theorem tst_bin (o a b) : tst P (.bin o a b) ρ S = (ev P (.bin o a b) ρ S).bind truR := ng rfl
@[simp] theorem truR_bl (b : Bool) : truR (.bl b) S = .ok b S := ng rfl
@[simp] theorem truR_int (i : Int) : truR (.int i) S = .ok (i != 0) S := ng rfl
@[simp] theorem truR_non : truR .non S = .ok false S := ng rfl
@[simp] theorem truR_tup (ds) : truR (.tup ds) S = .ok (!ds.isEmpty) S := ng rfl
@[simp] theorem negR_int (i : Int) : negR (.int i) S = .ok (.int (-i)) S := ng rfl
@[simp] theorem andR_bl (k) (b : Bool) : andR k (.bl b) S = bif b then k S else .ok (.bl false) S := by cases b <;> rfl
@[simp] theorem orR_bl (k) (b : Bool) : orR k (.bl b) S = bif b then .ok (.bl true) S else k S := by cases b <;> rfl
@[simp] theorem run_skip : run P .skip ρ S = .nx ρ S := ng rfl
@[simp] theorem run_pass : run P .pass ρ S = .nx ρ S := ng rfl
@[simp] theorem run_seq (a b) : run P (.seq a b) ρ S = (run P a ρ S).seq (run P b) := ng rfl
@[simp] theorem run_ex (e) : run P (.ex e) ρ S = O.of ρ (ev P e ρ S) fun _ S1 => .nx ρ S1 := ng rfl
@[simp] theorem run_asg (tg e) : run P (.asg tg e) ρ S = O.of ρ (ev P e ρ S) fun d S1 => asgO tg d ρ S1 := ng rfl
@[simp] theorem run_aug (i o e) : run P (.aug i o e) ρ S = match ρ[i]? with
    | some (some x) => O.of ρ (ev P e ρ S) fun d S1 => O.of ρ (augB o x d S1) fun z S2 => .nx (ρ.set i (some z)) S2
    | _ => .bad := ng rfl
@[simp] theorem augB_add (i j : Int) : augB .add (.int i) (.int j) S = .ok (.int (i + j)) S := ng rfl
@[simp] theorem augB_sub (i j : Int) : augB .sub (.int i) (.int j) S = .ok (.int (i - j)) S := ng rfl
@[simp] theorem run_dsp (i x tbl e as) : run P (.dsp i x tbl e as) ρ S = bif decide (i < ρ.length) then (O.of ρ (ev P e ρ S) fun d S1 => dspO tbl d fun f => O.of (ρ.set i none) (evs P as (ρ.set i none) S1) fun ds S2 => O.of (ρ.set i none) (P f ds S2) fun v S3 => .ret v S3) else .bad := ng rfl
theorem dspO_str {tbl : List (Str × Str × Nat)} {z : Str} {p : Str × Nat} (h : tbl.lookup z = some p) (k : Nat → O) : dspO tbl (.str z) k = k p.2 := by simp [dspO, h]
@[simp] theorem run_ret (e) : run P (.ret e) ρ S = O.of ρ (ev P e ρ S) fun d S1 => .ret d S1 := ng rfl
@[simp] theorem run_retN : run P .retN ρ S = .ret .non S := ng rfl
@[simp] theorem run_ite (c a b) : run P (.ite c a b) ρ S = O.of ρ (tst P c ρ S) fun t S1 => bif t then run P a ρ S1 else run P b ρ S1 := ng rfl
@[simp] theorem run_whl (n c b) : run P (.whl n c b) ρ S = whlL (tst P c) (run P b) n ρ S := ng rfl
@[simp] theorem run_for (tg it b) : run P (.for tg it b) ρ S = O.of ρ (itr P it ρ S) fun w S1 => forL (ckS w.lk) (fun x ρ S => (asgO tg x ρ S).seq (run P b)) w.ds ρ S1 := ng rfl
@[simp] theorem run_brk : run P .brk ρ S = .bk ρ S := ng rfl
@[simp] theorem run_cnt : run P .cnt ρ S = .ct ρ S := ng rfl
@[simp] theorem run_raise (c) : run P (.raise c) ρ S = .exc c [] ρ S := ng rfl
@[simp] theorem run_tryAs (b y tbl i s) : run P (.tryAs b y tbl i s) ρ S = catchO (run P b ρ S) tbl fun c ρ' S' => (suiteO fun a => run (hotP c a) s (ρ'.set i (some (.exc c a))) S').unset i := ng rfl
@[simp] theorem run_tryOn (b y tbl s) : run P (.tryOn b y tbl s) ρ S = catchO (run P b ρ S) tbl fun c ρ' S' => (suiteO fun a => run (hotP c a) s ρ' S').noexc := ng rfl
@[simp] theorem catch_nx {tbl k} : catchO (.nx ρ S) tbl k = .nx ρ S := ng rfl
@[simp] theorem catch_ret {tbl k d} : catchO (.ret d S) tbl k = .ret d S := ng rfl
@[simp] theorem catch_exc {tbl k c} : catchO (.exc c [] ρ S) tbl k = match tbl[c]? with | some true => k c ρ S | some false => .exc c [] ρ S | none => .bad := by
  unfold catchO
  cases h : tbl[c]? with
  | none => simp [h]
  | some b => cases b <;> simp [h]
@[simp] theorem suite_const {o : O} : suiteO (fun _ => o) = o := by
  unfold suiteO
  exact if_pos fun _ => rfl
@[simp] theorem unset_ret {i d} : (O.ret d S).unset i = .ret d S := ng rfl
@[simp] theorem unset_nx {i} : (O.nx ρ S).unset i = .nx (ρ.set i none) S := ng rfl
@[simp] theorem noexc_ret {d} : (O.ret d S).noexc = .ret d S := ng rfl
@[simp] theorem noexc_nx : (O.nx ρ S).noexc = .nx ρ S := ng rfl
@[simp] theorem ev_isx (a y tbl) : ev P (.isx a y tbl) ρ S = (ev P a ρ S).bind fun x S1 => isxR P tbl x S1 := ng rfl
@[simp] theorem tst_isx (a y tbl) : tst P (.isx a y tbl) ρ S = (ev P (.isx a y tbl) ρ S).bind truR := ng rfl
@[simp] theorem isx_hot {c a tbl} : isxR (hotP c a) tbl (.exc c a) S = match tbl[c]? with | some b => .ok (.bl b) S | none => .bad := by
  unfold isxR hotP
  simp only [and_self, if_true]
  rfl
@[simp] theorem asgO_var (i : Nat) (d : D) : asgO (.var i) d ρ S = .nx (ρ.set i (some d)) S := ng rfl
@[simp] theorem ckS_none : ckS none S = true := ng rfl
@[simp] theorem ckS_some (n c) : ckS (some (n, c)) S = decide (S[n]? = some c) := ng rfl
/-! ### operations on known kinds -/
@[simp] theorem b2_add (i j : Int) : bin2 .add (.int i) (.int j) S = .ok (.int (i + j)) S := ng rfl
@[simp] theorem b2_sub (i j : Int) : bin2 .sub (.int i) (.int j) S = .ok (.int (i - j)) S := ng rfl
theorem b2_mul (i j : Int) (h : (-18446744073709551616 < i ∧ i < 18446744073709551616) ∨ (-18446744073709551616 < j ∧ j < 18446744073709551616)) : bin2 .mul (.int i) (.int j) S = .ok (.int (i * j)) S := if_pos h
@[simp] theorem b2_mulR (i j : Int) (h : -18446744073709551616 < j ∧ j < 18446744073709551616) : bin2 .mul (.int i) (.int j) S = .ok (.int (i * j)) S := b2_mul i j (.inr h)
@[simp] theorem b2_mulL (i j : Int) (h : -18446744073709551616 < i ∧ i < 18446744073709551616) : bin2 .mul (.int i) (.int j) S = .ok (.int (i * j)) S := b2_mul i j (.inl h)
@[simp] theorem b2_fdiv (i j : Int) (h : 0 < j ∧ j < 1073741824) : bin2 .fdiv (.int i) (.int j) S = .ok (.int (i / j)) S := if_pos h
@[simp] theorem b2_mod (i j : Int) (h : 0 < j) : bin2 .mod (.int i) (.int j) S = .ok (.int (i % j)) S := if_pos h
@[simp] theorem b2_pow (i j : Int) (h : 0 ≤ j ∧ j ≤ 1000000 ∧ i.natAbs < 18446744073709551616) : bin2 .pow (.int i) (.int j) S = .ok (.int (i ^ j.toNat)) S := if_pos h
@[simp] theorem cT_lt (i j : Int) : cmpT .lt (.int i) (.int j) S = .ok (decide (i < j)) S := ng rfl
@[simp] theorem cT_le (i j : Int) : cmpT .le (.int i) (.int j) S = .ok (decide (i ≤ j)) S := ng rfl
@[simp] theorem cT_gt (i j : Int) : cmpT .gt (.int i) (.int j) S = .ok (decide (j < i)) S := ng rfl
@[simp] theorem cT_ge (i j : Int) : cmpT .ge (.int i) (.int j) S = .ok (decide (j ≤ i)) S := ng rfl
@[simp] theorem cT_eq (i j : Int) : cmpT .eq (.int i) (.int j) S = .ok (decide (i = j)) S := ng rfl
@[simp] theorem cT_eq_str (i j : Str) : cmpT .eq (.str i) (.str j) S = .ok (decide (i = j)) S := ng rfl
@[simp] theorem cT_ne_str (i j : Str) : cmpT .ne (.str i) (.str j) S = .ok (!decide (i = j)) S := ng rfl
@[simp] theorem cR_eq_str (i j : Str) : cmpR .eq (.str i) (.str j) S = .ok (.bl (decide (i = j))) S := ng rfl
@[simp] theorem cR_ne_str (i j : Str) : cmpR .ne (.str i) (.str j) S = .ok (.bl (!decide (i = j))) S := ng rfl
@[simp] theorem cT_ne (i j : Int) : cmpT .ne (.int i) (.int j) S = .ok (!decide (i = j)) S := ng rfl
@[simp] theorem cR_lt (i j : Int) : cmpR .lt (.int i) (.int j) S = .ok (.bl (decide (i < j))) S := ng rfl
@[simp] theorem cR_le (i j : Int) : cmpR .le (.int i) (.int j) S = .ok (.bl (decide (i ≤ j))) S := ng rfl
@[simp] theorem cR_gt (i j : Int) : cmpR .gt (.int i) (.int j) S = .ok (.bl (decide (j < i))) S := ng rfl
@[simp] theorem cR_ge (i j : Int) : cmpR .ge (.int i) (.int j) S = .ok (.bl (decide (j ≤ i))) S := ng rfl
@[simp] theorem cR_eq (i j : Int) : cmpR .eq (.int i) (.int j) S = .ok (.bl (decide (i = j))) S := ng rfl
@[simp] theorem cR_ne (i j : Int) : cmpR .ne (.int i) (.int j) S = .ok (.bl (!decide (i = j))) S := ng rfl
@[simp] theorem len_lst {n : Nat} {ds : List D} (h : S[n]? = some (.lst ds)) : biD .len [.ref n] S = .ok (.int ds.length) S := by simp [biD, seqD, h]
@[simp] theorem len_ro {n : Nat} {ds : List D} (h : S[n]? = some (.ro ds)) : biD .len [.ref n] S = .ok (.int ds.length) S := by simp [biD, seqD, h]
@[simp] theorem len_tup (ds : List D) : biD .len [.tup ds] S = .ok (.int ds.length) S := ng rfl
@[simp] theorem bi_abs' (i : Int) : biD .abs [.int i] S = .ok (.int (if i < 0 then -i else i)) S := ng rfl
@[simp] theorem bi_min' (i j : Int) : biD .min2 [.int i, .int j] S = .ok (.int (if j < i then j else i)) S := ng rfl
@[simp] theorem bi_max' (i j : Int) : biD .max2 [.int i, .int j] S = .ok (.int (if j > i then j else i)) S := ng rfl
@[simp] theorem bi_min3' (i j k : Int) : biD .min3 [.int i, .int j, .int k] S = .ok (.int (if k < (if j < i then j else i) then k else if j < i then j else i)) S := ng rfl
@[simp] theorem bi_max3' (i j k : Int) : biD .max3 [.int i, .int j, .int k] S = .ok (.int (if (if i < j then j else i) < k then k else if i < j then j else i)) S := ng rfl
@[simp] theorem bi_int' (i : Int) : biD .int [.int i] S = .ok (.int i) S := ng rfl
@[simp] theorem bi_intb (b : Bool) : biD .int [.bl b] S = .ok (.int (if b then 1 else 0)) S := ng rfl
@[simp] theorem bi_tuple_lst {n : Nat} {ds : List D} (h : S[n]? = some (.lst ds)) : biD .tuple [.ref n] S = .ok (.tup ds) S := by simp [biD, seqD, h]
@[simp] theorem bi_tuple_tup (ds : List D) : biD .tuple [.tup ds] S = .ok (.tup ds) S := ng rfl
@[simp] theorem bi_list_lst {n : Nat} {ds : List D} (h : S[n]? = some (.lst ds)) : biD .list [.ref n] S = .ok (.ref S.length) (S ++ [.lst ds]) := by simp [biD, seqD, h]
@[simp] theorem bi_list_tup (ds : List D) : biD .list [.tup ds] S = .ok (.ref S.length) (S ++ [.lst ds]) := ng rfl
@[simp] theorem meOk_lst {n : Nat} {ds : List D} (h : S[n]? = some (.lst ds)) : meOk .append (.ref n) S = true := by simp [meOk, h]
@[simp] theorem meD_append {n : Nat} {ds : List D} {d : D} (h : S[n]? = some (.lst ds)) (hl : ds.length < linesz) : meD .append (.ref n) [d] S = .ok .non (S.set n (.lst (ds ++ [d]))) := by simp [meD, h, hl]
@[simp] theorem lstR_ok (ds : List D) (h : ds.length ≤ linesz) : lstR ds S = .ok (.ref S.length) (S ++ [.lst ds]) := if_pos h
@[simp] theorem tupR_ok (ds : List D) (h : ds.length ≤ linesz) : tupR ds S = .ok (.tup ds) S := if_pos h
@[simp] theorem slc_tup' (ds : List D) (lo hi) : slc2 (.tup ds) lo hi S = .ok (.tup (cutD ds lo hi)) S := ng rfl
@[simp] theorem slc_lst {n : Nat} {ds : List D} (h : S[n]? = some (.lst ds)) (lo hi) : slc2 (.ref n) lo hi S = .ok (.ref S.length) (S ++ [.lst (cutD ds lo hi)]) := by simp [slc2, h]
@[simp] theorem slc_ro {n : Nat} {ds : List D} (h : S[n]? = some (.ro ds)) (lo hi) : slc2 (.ref n) lo hi S = .ok (.ref S.length) (S ++ [.lst (cutD ds lo hi)]) := by simp [slc2, h]
@[simp] theorem itD_tup (ds : List D) : itD (.tup ds) S = .ok ⟨ds, none⟩ S := ng rfl
@[simp] theorem itD_lst {n : Nat} {ds : List D} (h : S[n]? = some (.lst ds)) : itD (.ref n) S = .ok ⟨ds, some (n, .lst ds)⟩ S := by simp [itD, h]
@[simp] theorem itD_ro {n : Nat} {ds : List D} (h : S[n]? = some (.ro ds)) : itD (.ref n) S = .ok ⟨ds, some (n, .ro ds)⟩ S := by simp [itD, h]
@[simp] theorem rngR1 (n : Int) (h : -4611686018427387904 ≤ n ∧ n < 4611686018427387904) : rngR [.int n] S = .ok ⟨rngD 0 n.toNat, none⟩ S := by
  simp only [rngR, rgD, if_pos h]
@[simp] theorem rngR3 (a b : Int) (h : -4611686018427387904 ≤ a ∧ a < 4611686018427387904 ∧ -4611686018427387904 ≤ b ∧ b < 4611686018427387904) : rngR [.int a, .int b, .int (-1)] S = .ok ⟨rngN a (a - b).toNat, none⟩ S := by
  simp only [rngR, rgD]
  rw [if_pos ⟨trivial, h⟩]
@[simp] theorem rngR2 (a b : Int) (h : -4611686018427387904 ≤ a ∧ a < 4611686018427387904 ∧ -4611686018427387904 ≤ b ∧ b < 4611686018427387904) : rngR [.int a, .int b] S = .ok ⟨rngD a (b - a).toNat, none⟩ S := by
  simp only [rngR, rgD, if_pos h]
@[simp] theorem finO_ret (d : D) (S' : Store) : finO S (.ret d S') = fin S d S' := ng rfl
@[simp] theorem finO_exc (c ρ S') : finO S (.exc c [] ρ S') = .exc c [] (finX S S') := ng rfl
/-! ### what is forgotten behind a call -/
@[simp] theorem reach_nil {n0 k : Nat} {acc : List Nat} : reach S n0 k [] acc = acc := by cases k <;> rfl
theorem reach_step {n0 k n : Nat} {r acc : List Nat} {c : Cell} (h : S[n]? = some c) (h1 : n0 ≤ n) (h2 : n ∉ acc) : reach S n0 (k + 1) (n :: r) acc = reach S n0 k (c.refs ++ r) (acc ++ [n]) := by
  have e : ¬ (n < n0 ∨ n ∈ acc) := by rintro (z | z); omega; exact h2 z
  conv => lhs; unfold reach
  rw [if_neg e, h]
theorem reach_skip {n0 k n : Nat} {r acc : List Nat} (h : n < n0 ∨ n ∈ acc) : reach S n0 (k + 1) (n :: r) acc = reach S n0 k r acc := by
  conv => lhs; unfold reach
  rw [if_pos h]
theorem chg_app : ∀ (S l : Store), chg S (S ++ l) = []
  | [], l => by cases l <;> rfl
  | c :: S, l => by simp [chg, chg_app S l]
theorem keepE_app {f : Nat → Nat} : ∀ (S l : Store), keepE f S (S ++ l) = S
  | [], l => by cases l <;> rfl
  | c :: S, l => by simp [keepE, keepE_app S l]
theorem chg_set : ∀ {S : Store} {p : Nat} {c : Cell} (l : Store), c.refs = [] → chg S (S.set p c ++ l) = []
  | [], _, _, l, _ => by cases l <;> rfl
  | a :: S, 0, c, l, h => by
    simp only [List.set_cons_zero, List.cons_append, chg, chg_app S l]
    by_cases e : a = c <;> simp [e, h]
  | a :: S, p + 1, c, l, h => by simp [chg, chg_set (S := S) (p := p) l h]
theorem keepE_set {f : Nat → Nat} : ∀ {S : Store} {p : Nat} {c : Cell} (l : Store), c.refs = [] → keepE f S (S.set p c ++ l) = S.set p c
  | [], _, _, l, _ => by cases l <;> rfl
  | a :: S, 0, c, l, h => by
    have hr : c.ren f = c := Cell.ren_id fun n hn => by rw [h] at hn; cases hn
    simp [keepE, keepE_app S l, hr]
  | a :: S, p + 1, c, l, h => by simp [keepE, keepE_set (S := S) (p := p) l h]
/-- the general form: the cells L are kept -/
theorem fin_gen {S' : Store} {d : D} {L : List Nat} (hc : chg S S' = []) (hk : ∀ f, keepE f S S' = S'.take S.length) (hlen : S.length ≤ S'.length) (hr : reach S' S.length 100000 d.refs [] = L) (h : keepC S S' d.refs L = true) :
    fin S d S' = .ok (d.ren (renOf S.length L)) (S'.take S.length ++ L.filterMap fun n => (S'[n]?).map (Cell.ren (renOf S.length L))) := by
  unfold fin
  simp only [hc, List.append_nil, hr, h, if_true, keepS, hk]
theorem keepC_nil {S' : Store} (h : S.length ≤ S'.length) : keepC S S' [] [] = true := by simp [keepC, h]
@[simp] theorem finX_app {l : List Cell} : finX S (S ++ l) = S := by simp [finX, chg_app, keepS, keepE_app, keepC_nil]
@[simp] theorem finX_self : finX S S = S := by
  have := finX_app (S := S) (l := [])
  rwa [List.append_nil] at this
theorem finX_set {p : Nat} {c : Cell} (l : Store) (h : c.refs = []) : finX S (S.set p c ++ l) = S.set p c := by
  have : keepC S (S.set p c ++ l) [] [] = true := keepC_nil (by simp)
  simp [finX, chg_set l h, keepS, keepE_set l h, this]
@[simp] theorem finO_nx (ρ : Env) (S' : Store) : finO S (.nx ρ S') = fin S .non S' := ng rfl
theorem linesz_is : linesz = 16777216 := ng rfl
@[simp] theorem b2_cat {m n : Nat} {xs ys : List D} (h1 : S[m]? = some (.lst xs)) (h2 : S[n]? = some (.lst ys)) (hl : xs.length + ys.length ≤ linesz) : bin2 .add (.ref m) (.ref n) S = .ok (.ref S.length) (S ++ [.lst (xs ++ ys)]) := by simp [bin2, h1, h2, hl]
@[simp] theorem b2_tcat {xs ys : List D} (hl : xs.length + ys.length ≤ linesz) : bin2 .add (.tup xs) (.tup ys) S = .ok (.tup (xs ++ ys)) S := if_pos hl
theorem fin_any {d : D} (h : d.refs = []) (S' : Store) : ∃ S2, fin S d S' = .ok d S2 := by
  unfold fin
  simp only
  split
  · exact ⟨_, by rw [D.ren_id d fun n hn => by rw [h] at hn; cases hn]⟩
  · exact ⟨_, rfl⟩
/-- an item -/
def atR (ds : List D) (i : Int) (S : Store) : R D := match L2.atI ds i with | some d => .ok d S | none => .bad
theorem atR_some {ds : List D} {i : Int} {d : D} (h : L2.atI ds i = some d) : atR ds i S = .ok d S := by unfold atR; rw [h]
theorem atR_nat {ds : List D} {i : Nat} {d : D} (h : ds[i]? = some d) : atR ds (i : Int) S = .ok d S := atR_some (L2.atI_nat h)
theorem atR_int {ds : List D} {i : Int} {d : D} (h0 : 0 ≤ i) (h : ds[i.toNat]? = some d) : atR ds i S = .ok d S := by
  have := atR_nat (S := S) h
  rwa [Int.toNat_of_nonneg h0] at this
@[simp] theorem ix_tup' (ds : List D) (i : Int) : ix2 (.tup ds) (.int i) S = atR ds i S := ng rfl
@[simp] theorem ix_lst {n : Nat} {ds : List D} (h : S[n]? = some (.lst ds)) (i : Int) : ix2 (.ref n) (.int i) S = atR ds i S := by
  show (match S[n]? with | some (.lst ds) => _ | some (.ro ds) => _ | _ => _) = _
  rw [h]; rfl
@[simp] theorem ix_ro {n : Nat} {ds : List D} (h : S[n]? = some (.ro ds)) (i : Int) : ix2 (.ref n) (.int i) S = atR ds i S := by
  show (match S[n]? with | some (.lst ds) => _ | some (.ro ds) => _ | _ => _) = _
  rw [h]; rfl
@[simp] theorem at_0 {x0 : D} {r : List D} : atR (x0 :: r) 0 S = .ok x0 S := atR_nat (i := 0) rfl
@[simp] theorem at_1 {x0 x1 : D} {r : List D} : atR (x0 :: x1 :: r) 1 S = .ok x1 S := atR_nat (i := 1) rfl
@[simp] theorem at_2 {x0 x1 x2 : D} {r : List D} : atR (x0 :: x1 :: x2 :: r) 2 S = .ok x2 S := atR_nat (i := 2) rfl
@[simp] theorem at_3 {x0 x1 x2 x3 : D} {r : List D} : atR (x0 :: x1 :: x2 :: x3 :: r) 3 S = .ok x3 S := atR_nat (i := 3) rfl
@[simp] theorem at_4 {x0 x1 x2 x3 x4 : D} {r : List D} : atR (x0 :: x1 :: x2 :: x3 :: x4 :: r) 4 S = .ok x4 S := atR_nat (i := 4) rfl
@[simp] theorem at_5 {x0 x1 x2 x3 x4 x5 : D} {r : List D} : atR (x0 :: x1 :: x2 :: x3 :: x4 :: x5 :: r) 5 S = .ok x5 S := atR_nat (i := 5) rfl
@[simp] theorem at_6 {x0 x1 x2 x3 x4 x5 x6 : D} {r : List D} : atR (x0 :: x1 :: x2 :: x3 :: x4 :: x5 :: x6 :: r) 6 S = .ok x6 S := atR_nat (i := 6) rfl
@[simp] theorem at_7 {x0 x1 x2 x3 x4 x5 x6 x7 : D} {r : List D} : atR (x0 :: x1 :: x2 :: x3 :: x4 :: x5 :: x6 :: x7 :: r) 7 S = .ok x7 S := atR_nat (i := 7) rfl
/-! ### the store: an elder part, and what the def has made -/
variable {l : List Cell}
@[simp] theorem get0 : (S ++ l)[S.length]? = l[0]? := by rw [List.getElem?_append_right (Nat.le_refl _)]; simp
@[simp] theorem getk (k : Nat) : (S ++ l)[S.length + k]? = l[k]? := by rw [List.getElem?_append_right (Nat.le_add_right _ _)]; simp
@[simp] theorem set0 (c : Cell) : (S ++ l).set S.length c = S ++ l.set 0 c := by rw [List.set_append_right _ _ (Nat.le_refl _)]; simp
@[simp] theorem setk (k : Nat) (c : Cell) : (S ++ l).set (S.length + k) c = S ++ l.set k c := by rw [List.set_append_right _ _ (Nat.le_add_right _ _)]; simp
theorem get_lo {n : Nat} {c : Cell} (h : S[n]? = some c) : (S ++ l)[n]? = some c := by
  rw [List.getElem?_append_left (List.getElem?_eq_some_iff.mp h).1]; exact h
@[simp] theorem fin_pure {d : D} (h : d.refs = []) : fin S d (S ++ l) = .ok d S := by
  rw [fin_gen (L := []) (chg_app S l) (fun f => by rw [keepE_app]; simp) (by simp) (by rw [h, reach_nil]) (by rw [h]; exact keepC_nil (by simp))]
  rw [D.ren_id d fun n hn => by rw [h] at hn; cases hn]
  simp
@[simp] theorem fin_set {d : D} {p : Nat} {c : Cell} (h : d.refs = []) (hc : c.refs = []) : fin S d (S.set p c ++ l) = .ok d (S.set p c) := by
  have hk : keepC S (S.set p c ++ l) [] [] = true := keepC_nil (by simp)
  unfold fin
  simp only [h, chg_set l hc, List.append_nil, reach_nil, hk, if_true, keepS, keepE_set l hc, List.filterMap_nil]
  rw [D.ren_id d fun n hn => by rw [h] at hn; cases hn]
@[simp] theorem fin_set0 {d : D} {p : Nat} {c : Cell} (h : d.refs = []) (hc : c.refs = []) : fin S d (S.set p c) = .ok d (S.set p c) := by
  have := fin_set (S := S) (l := []) (p := p) h hc
  rwa [List.append_nil] at this
@[simp] theorem fin_pure0 {d : D} (h : d.refs = []) : fin S d S = .ok d S := by
  have := fin_pure (S := S) (l := []) h
  rwa [List.append_nil] at this
@[simp] theorem refs_int (i : Int) : D.refs (.int i) = [] := ng rfl
@[simp] theorem refs_bl (i : Bool) : D.refs (.bl i) = [] := ng rfl
@[simp] theorem refs_non : D.refs .non = [] := ng rfl
@[simp] theorem refs_str (i : Str) : D.refs (.str i) = [] := ng rfl
@[simp] theorem refs_tup (ds : List D) : D.refs (.tup ds) = D.refsL ds := by simp [D.refs]
@[simp] theorem refsL_nil : D.refsL [] = [] := ng rfl
@[simp] theorem refsL_cons (d : D) (ds : List D) : D.refsL (d :: ds) = d.refs ++ D.refsL ds := by simp [D.refsL]
@[simp] theorem refsL_append (xs ys : List D) : D.refsL (xs ++ ys) = D.refsL xs ++ D.refsL ys := by
  induction xs with
  | nil => rfl
  | cons x xs ih => simp [ih]
@[simp] theorem refsL_ints (ns : List Int) : D.refsL (ns.map D.int) = [] := by
  induction ns with
  | nil => rfl
  | cons x xs ih => simp [ih]
/-- a fresh list without further cells comes out -/
theorem fin_list {ds : List D} {a : List Cell} {c : List Cell} (h : D.refsL ds = []) : fin S (.ref (S.length + a.length)) (S ++ a ++ .lst ds :: c) = .ok (.ref S.length) (S ++ [.lst ds]) := by
  have hg : (S ++ a ++ Cell.lst ds :: c)[S.length + a.length]? = some (.lst ds) := by
    rw [List.getElem?_append_right (by simp)]; simp
  have hr : reach (S ++ a ++ .lst ds :: c) S.length 100000 [S.length + a.length] [] = [S.length + a.length] := by
    rw [show (100000 : Nat) = 99999 + 1 from rfl, reach_step hg (by omega) (by simp)]
    show reach _ _ _ (D.refsL ds ++ []) _ = _
    rw [h, List.append_nil, reach_nil, List.nil_append]
  have hlt : S.length + a.length < (S ++ a ++ Cell.lst ds :: c).length := by simp
  have hS : (S ++ a ++ Cell.lst ds :: c).take S.length = S := by simp
  have e1 : chg S (S ++ a ++ Cell.lst ds :: c) = [] := by rw [List.append_assoc]; exact chg_app _ _
  rw [fin_gen (d := .ref (S.length + a.length)) (L := [S.length + a.length]) e1 (fun f => by rw [List.append_assoc, keepE_app]; simp) (by simp) hr ?_]
  · rw [hS]
    simp only [List.filterMap_cons, hg, Option.map_some, List.filterMap_nil, D.ren, Cell.ren]
    rw [D.renL_id ds fun n hn => by rw [h] at hn; cases hn]
    simp [renOf]
    omega
  · unfold keepC
    simp only [List.flatMap_cons, List.flatMap_nil, hg, Cell.refs, h, D.refs]
    simp
theorem fin_at {ds : List D} {cs : List Cell} {i : Nat} (hc : cs[i]? = some (.lst ds)) (h : D.refsL ds = []) : fin S (.ref (S.length + i)) (S ++ cs) = .ok (.ref S.length) (S ++ [.lst ds]) := by
  have hi := (List.getElem?_eq_some_iff.mp hc).1
  have e := fin_list (S := S) (a := cs.take i) (c := cs.drop (i + 1)) h
  have e2 : cs.take i ++ Cell.lst ds :: cs.drop (i + 1) = cs := by
    rw [show Cell.lst ds = cs[i] from (List.getElem?_eq_some_iff.mp hc).2.symm, List.getElem_cons_drop, List.take_append_drop]
  rw [List.append_assoc, e2, List.length_take, Nat.min_eq_left (by omega)] at e
  exact e
theorem set_same {α : Type} {l : List α} {n : Nat} {c : α} (h : l[n]? = some c) : l.set n c = l := by
  apply List.ext_getElem?
  intro i
  by_cases hi : n = i
  · subst hi
    rw [List.getElem?_set_self (List.getElem?_eq_some_iff.mp h).1, h]
  · rw [List.getElem?_set_ne hi]
/-! ### loops -/
theorem forL_inv {ck : Store → Bool} {f : D → Env → Store → O} (I : Nat → Env → Store → Prop) : ∀ (ds : List D) (i : Nat) (ρ : Env) (S : Store), I i ρ S →
    (∀ j ρ S, I j ρ S → ck S = true) → (∀ (j : Nat) x ρ S, ds[j]? = some x → I (i + j) ρ S → ∃ ρ' S', f x ρ S = .nx ρ' S' ∧ I (i + j + 1) ρ' S') →
    ∃ ρ' S', forL ck f ds ρ S = .nx ρ' S' ∧ I (i + ds.length) ρ' S'
  | [], i, ρ, S, h0, hck, _ => ⟨ρ, S, by simp only [forL, hck i ρ S h0, cond_true], h0⟩
  | x :: ds, i, ρ, S, h0, hck, step => by
    obtain ⟨ρ1, S1, e1, h1⟩ := step 0 x ρ S rfl h0
    obtain ⟨ρ2, S2, e2, h2⟩ := forL_inv I ds (i + 1) ρ1 S1 h1 hck fun j y ρ S hj hI => by
      have := step (j + 1) y ρ S (by simpa using hj) (by rw [show i + (j + 1) = i + 1 + j by omega]; exact hI)
      rwa [show i + (j + 1) + 1 = i + 1 + j + 1 by omega] at this
    refine ⟨ρ2, S2, ?_, by rw [show i + (x :: ds).length = i + 1 + ds.length by simp; omega]; exact h2⟩
    simp only [forL, hck i ρ S h0, cond_true, e1]
    exact e2
/-- over the whole list -/
theorem for_inv {ck : Store → Bool} {f : D → Env → Store → O} {ds : List D} (I : Nat → Env → Store → Prop) (h0 : I 0 ρ S) (hck : ∀ j ρ S, I j ρ S → ck S = true)
    (step : ∀ (j : Nat) x ρ S, ds[j]? = some x → I j ρ S → ∃ ρ' S', f x ρ S = .nx ρ' S' ∧ I (j + 1) ρ' S') : ∃ ρ' S', forL ck f ds ρ S = .nx ρ' S' ∧ I ds.length ρ' S' := by
  obtain ⟨ρ', S', e, h⟩ := forL_inv I ds 0 ρ S h0 hck fun j x ρ S hj hI => by
    rw [Nat.zero_add] at hI ⊢
    exact step j x ρ S hj hI
  rw [Nat.zero_add] at h
  exact ⟨ρ', S', e, h⟩
/-- a loop that may end with an answer -/
theorem for_ret {ck : Store → Bool} {f : D → Env → Store → O} {r : D} (p : D → Bool) (I : Env → Store → Prop) (J : Store → Prop) : ∀ (ds : List D) (ρ : Env) (S : Store), I ρ S → (∀ ρ S, I ρ S → ck S = true) →
    (∀ x ∈ ds, ∀ ρ S, I ρ S → (p x = false ∧ ∃ ρ' S', f x ρ S = .nx ρ' S' ∧ I ρ' S') ∨ (p x = true ∧ ∃ S', f x ρ S = .ret r S' ∧ J S')) →
    (ds.any p = false ∧ ∃ ρ' S', forL ck f ds ρ S = .nx ρ' S' ∧ I ρ' S') ∨ (ds.any p = true ∧ ∃ S', forL ck f ds ρ S = .ret r S' ∧ J S')
  | [], ρ, S, h0, hck, _ => .inl ⟨rfl, ρ, S, by simp only [forL, hck ρ S h0, cond_true], h0⟩
  | x :: ds, ρ, S, h0, hck, step => by
    rcases step x List.mem_cons_self ρ S h0 with ⟨hp, ρ1, S1, e1, h1⟩ | ⟨hp, S1, e1, h1⟩
    · rcases for_ret p I J ds ρ1 S1 h1 hck fun y hy => step y (List.mem_cons_of_mem _ hy) with ⟨h2, ρ2, S2, e2, h3⟩ | ⟨h2, S2, e2, h3⟩
      · refine .inl ⟨by simp [hp, h2], ρ2, S2, ?_, h3⟩
        simp only [forL, hck ρ S h0, cond_true, e1]
        exact e2
      · refine .inr ⟨by simp [h2], S2, ?_, h3⟩
        simp only [forL, hck ρ S h0, cond_true, e1]
        exact e2
    · refine .inr ⟨by simp [hp], S1, ?_, h1⟩
      simp only [forL, hck ρ S h0, cond_true, e1]
theorem rng_at {lo : Int} {n j : Nat} {x : D} (h : (rngD lo n)[j]? = some x) : j < n ∧ x = .int (lo + j) := by
  unfold rngD at h
  rw [List.getElem?_map] at h
  cases e : (List.range n)[j]? with
  | none => rw [e] at h; cases h
  | some k =>
    rw [e] at h
    cases h
    have hi := (List.getElem?_eq_some_iff.mp e).1
    rw [List.length_range] at hi
    rw [List.getElem?_range hi] at e
    cases e
    exact ⟨hi, rfl⟩
@[simp] theorem rng_len {lo : Int} {n : Nat} : (rngD lo n).length = n := by simp [rngD]
/-- a comprehension whose elements change nothing -/
theorem lcL_pure {n : Nat} {ck : Store → Bool} {f : D → Store → R (Option D)} {g : D → Option D} : ∀ (ds : List D) (acc : List D) (S : Store), S[n]? = some (.lst acc) → acc.length + ds.length ≤ 1000000 →
    (∀ acc', ck (S.set n (.lst acc')) = true) → (∀ x ∈ ds, ∀ acc', f x (S.set n (.lst acc')) = .ok (g x) (S.set n (.lst acc'))) → lcL n ck f ds S = .ok () (S.set n (.lst (acc ++ ds.filterMap g)))
  | [], acc, S, hS, _, hck, _ => by
    have e : S.set n (.lst acc) = S := by
      apply List.ext_getElem?
      intro i
      by_cases hi : n = i
      · subst hi
        rw [List.getElem?_set_self (List.getElem?_eq_some_iff.mp hS).1, hS]
      · rw [List.getElem?_set_ne hi]
    have h1 := hck acc
    rw [e] at h1
    simp only [lcL, h1, cond_true, List.filterMap_nil, List.append_nil, e]
  | x :: ds, acc, S, hS, hl, hck, hf => by
    have hn := (List.getElem?_eq_some_iff.mp hS).1
    have e : S.set n (.lst acc) = S := by
      apply List.ext_getElem?
      intro i
      by_cases hi : n = i
      · subst hi
        rw [List.getElem?_set_self hn, hS]
      · rw [List.getElem?_set_ne hi]
    have h1 := hck acc
    have h2 := hf x List.mem_cons_self acc
    rw [e] at h1 h2
    simp only [lcL, h1, cond_true, h2]
    have hl' : acc.length + ds.length + 1 ≤ 1000000 := by simpa [Nat.add_assoc] using hl
    cases hg : g x with
    | none =>
      simp only
      rw [lcL_pure ds acc S hS (by omega) hck fun y hy => hf y (List.mem_cons_of_mem _ hy), List.filterMap_cons, hg]
    | some d =>
      simp only [hS]
      rw [if_pos (by show acc.length < linesz; unfold linesz; omega)]
      rw [lcL_pure ds (acc ++ [d]) (S.set n (.lst (acc ++ [d]))) (by rw [List.getElem?_set_self hn]) (by simp; omega) (fun acc' => by rw [List.set_set]; exact hck acc') fun y hy acc' => by rw [List.set_set]; exact hf y (List.mem_cons_of_mem _ hy) acc']
      rw [List.set_set, List.filterMap_cons, hg]
      simp
/-- [.. for x in xs] where nothing is changed -/
theorem lc_pure {own : List Nat} {tg : E} {cond : Env → Store → R Bool} {elt : Env → Store → R D} {it : It} {g : D → Option D} (hl : it.ds.length ≤ 1000000) (hck : ∀ c, ckS it.lk (S ++ [c]) = true)
    (hf : ∀ x ∈ it.ds, ∀ c, lcF own tg cond elt ρ x (S ++ [c]) = .ok (g x) (S ++ [c])) : lcR own tg cond elt ρ it S = .ok (.ref S.length) (S ++ [.lst (it.ds.filterMap g)]) := by
  unfold lcR
  have h := lcL_pure (n := S.length) (ck := ckS it.lk) (f := lcF own tg cond elt ρ) (g := g) it.ds [] (S ++ [Cell.lst []]) (by simp) (by simpa using hl) (fun acc' => by rw [set0]; exact hck _) (fun x hx acc' => by rw [set0]; exact hf x hx _)
  rw [h]
  simp
/-! ### lists of numbers compared; items of a list; all, any -/
theorem toPys_ints {rf : Nat → Option PyData} : ∀ xs : List Int, toPysW rf (xs.map D.int) = some (xs.map PyData.int)
  | [] => rfl
  | x :: xs => by simp only [List.map_cons, toPysW, toPyW, toPys_ints xs]
theorem can_ints : ∀ xs : List Int, PyData.canLayAll0 (xs.map PyData.int) = true
  | [] => by simp [PyData.canLayAll0]
  | x :: xs => by simp [PyData.canLayAll0, PyData.canLay0, can_ints xs]
theorem depth_ints : ∀ xs : List Int, PyData.depthAll (xs.map PyData.int) ≤ 1
  | [] => by simp [PyData.depthAll]
  | x :: xs => by
    have := depth_ints xs
    simp only [List.map_cons, PyData.depthAll, PyData.depth]
    omega
theorem shaped_ints (xs : List Int) : SeqAt.shaped (.list (xs.map PyData.int)) = true := by
  have := depth_ints xs
  simp only [SeqAt.shaped, PyData.canLay0, can_ints, PyData.depth, Bool.true_and]
  exact decide_eq_true (by omega)
theorem shaped_intsT (xs : List Int) : SeqAt.shaped (.tuple (xs.map PyData.int)) = true := by
  have := depth_ints xs
  simp only [SeqAt.shaped, PyData.canLay0, can_ints, PyData.depth, Bool.true_and]
  exact decide_eq_true (by omega)
theorem eqv_ints : ∀ xs ys : List Int, PyData.eqvAll (xs.map PyData.int) (ys.map PyData.int) = decide (xs = ys)
  | [], [] => by simp [PyData.eqvAll]
  | [], y :: ys => by simp [PyData.eqvAll]
  | x :: xs, [] => by simp [PyData.eqvAll]
  | x :: xs, y :: ys => by
    simp only [List.map_cons, PyData.eqvAll, PyData.eqv, eqv_ints xs ys, List.cons.injEq]
    by_cases h : x = y <;> by_cases h2 : xs = ys <;> simp [h, h2]
theorem eqD_of {x y : D} {b : Bool} (h : eqD0 S x y = some b) : eqD S x y = some b := by unfold eqD; rw [h]
theorem eq_lists {m n : Nat} {xs ys : List Int} (h1 : S[m]? = some (.lst (xs.map D.int))) (h2 : S[n]? = some (.lst (ys.map D.int))) : eqD S (.ref m) (.ref n) = some (decide (xs = ys)) := by
  have e1 : toPy S (.ref m) = some (.list (xs.map PyData.int)) := by simp [toPy, toPyW, toPyN, h1, toPys_ints]
  have e2 : toPy S (.ref n) = some (.list (ys.map PyData.int)) := by simp [toPy, toPyW, toPyN, h2, toPys_ints]
  refine eqD_of ?_
  unfold eqD0
  simp only [e1, e2, shaped_ints, Bool.and_self, if_true, PyData.eqv, eqv_ints]
theorem eq_tups (xs ys : List Int) : eqD S (.tup (xs.map D.int)) (.tup (ys.map D.int)) = some (decide (xs = ys)) := by
  have e1 : toPy S (.tup (xs.map D.int)) = some (.tuple (xs.map PyData.int)) := by simp [toPy, toPyW, toPys_ints]
  have e2 : toPy S (.tup (ys.map D.int)) = some (.tuple (ys.map PyData.int)) := by simp [toPy, toPyW, toPys_ints]
  refine eqD_of ?_
  unfold eqD0
  simp only [e1, e2, shaped_intsT, Bool.and_self, if_true, PyData.eqv, eqv_ints]
theorem cR_ne_lists {m n : Nat} {xs ys : List Int} (h1 : S[m]? = some (.lst (xs.map D.int))) (h2 : S[n]? = some (.lst (ys.map D.int))) : cmpR .ne (.ref m) (.ref n) S = .ok (.bl (!decide (xs = ys))) S := by
  simp [cmpR, cmp2, eq_lists h1 h2]
theorem cT_ne_lists {m n : Nat} {xs ys : List Int} (h1 : S[m]? = some (.lst (xs.map D.int))) (h2 : S[n]? = some (.lst (ys.map D.int))) : cmpT .ne (.ref m) (.ref n) S = .ok (!decide (xs = ys)) S := by
  simp [cmpT, cmp2, eq_lists h1 h2]
theorem cT_eq_lists {m n : Nat} {xs ys : List Int} (h1 : S[m]? = some (.lst (xs.map D.int))) (h2 : S[n]? = some (.lst (ys.map D.int))) : cmpT .eq (.ref m) (.ref n) S = .ok (decide (xs = ys)) S := by
  simp [cmpT, cmp2, eq_lists h1 h2]
/-- an item at a place within -/
theorem at_mem {ds : List D} {i : Int} (h0 : 0 ≤ i) (h1 : i < ds.length) : ∃ d ∈ ds, ∀ S, atR ds i S = .ok d S := by
  have h : i.toNat < ds.length := by omega
  exact ⟨ds[i.toNat], List.getElem_mem h, fun S => atR_int h0 (List.getElem?_eq_getElem h)⟩
theorem at_int {xs : List Int} {i : Int} (h0 : 0 ≤ i) (h1 : i < xs.length) : ∃ x ∈ xs, ∀ S, atR (xs.map D.int) i S = .ok (.int x) S := by
  obtain ⟨d, hd, h⟩ := at_mem (ds := xs.map D.int) h0 (by simpa using h1)
  obtain ⟨x, hx, rfl⟩ := List.mem_map.mp hd
  exact ⟨x, hx, h⟩
theorem bls_map : ∀ bs : List Bool, blsD (bs.map D.bl) = some bs
  | [] => rfl
  | b :: bs => by simp [blsD, bls_map bs]
theorem all_lst {n : Nat} {bs : List Bool} (h : S[n]? = some (.lst (bs.map D.bl))) : biD .all [.ref n] S = .ok (.bl (bs.all id)) S := by
  simp [biD, seqD, h, bls_map]
theorem any_lst {n : Nat} {bs : List Bool} (h : S[n]? = some (.lst (bs.map D.bl))) : biD .any [.ref n] S = .ok (.bl (bs.any id)) S := by
  simp [biD, seqD, h, bls_map]
/-- all([f(x) for x in xs]) of a test that changes nothing -/
theorem all_lc {f i : Nat} {src : E} {ds : List D} {p : D → Bool} (hi : i < ρ.length) (hs : itr P src ρ S = .ok ⟨ds, none⟩ S) (hl : ds.length ≤ 1000000) (hp : ∀ d ∈ ds, ∀ S, P f [d] S = .ok (.bl (p d)) S) :
    ev P (.bi .all (.cons (.lc [i] (.var i) src (.bl true) (.call f (.cons (.var i) .nil))) .nil)) ρ S = .ok (.bl (ds.all p)) (S ++ [.lst (ds.map fun d => .bl (p d))]) := by
  have e := lc_pure (ρ := ρ) (S := S) (own := [i]) (tg := .var i) (cond := tst P (.bl true)) (elt := ev P (.call f (.cons (.var i) .nil))) (it := ⟨ds, none⟩) (g := fun d => some (.bl (p d))) hl (fun _ => rfl) (fun x hx c => by
    have hv : varR i ((ρ.set i none).set i (some x)) (S ++ [c]) = .ok x (S ++ [c]) := by
      simp [varR, hi]
    simp only [lcF, asgT, wipeE]
    rw [tst_bl, bind_ok, cond_true, ev_call, evs_cons, ev_var, hv]
    simp only [bind_ok, evs_nil, hp x hx])
  rw [ev_bi, evs_cons, ev_lc, hs, bind_ok, e]
  simp only [bind_ok, evs_nil]
  have e2 : ds.filterMap (fun d => some (D.bl (p d))) = (ds.map p).map D.bl := by
    rw [List.filterMap_eq_map', List.map_map]; rfl
  rw [e2, all_lst (bs := ds.map p) (by simp)]
  simp [List.all_map, Function.comp_def]
theorem sIx_neg {n d k : Nat} (hk : k ≤ n) (h0 : 0 < k) : HT.sIx n d (some (-(k : Int))) = n - k := by
  unfold HT.sIx
  simp only
  split <;> omega
theorem cut_hi {xs : List D} {k : Nat} (hk : k ≤ xs.length) (h0 : 0 < k) : cutD xs none (some (-(k : Int))) = xs.take (xs.length - k) := by
  unfold cutD
  rw [sIx_neg hk h0, show HT.sIx xs.length 0 none = 0 from rfl, Nat.sub_zero, List.drop_zero]
theorem cut_lo {xs : List D} {k : Nat} (hk : k ≤ xs.length) (h0 : 0 < k) : cutD xs (some (-(k : Int))) none = xs.drop (xs.length - k) := by
  unfold cutD
  rw [sIx_neg hk h0, show HT.sIx xs.length xs.length none = xs.length from rfl]
  exact List.take_of_length_le (by simp)
theorem cut_to' (xs : List D) (k : Nat) : cutD xs none (some (k : Int)) = xs.take k := by
  unfold cutD
  have h1 : HT.sIx xs.length 0 none = 0 := rfl
  have h2 : HT.sIx xs.length xs.length (some (k : Int)) = min k xs.length := HT.sIx_nat _ _ k
  rw [h1, h2, Nat.sub_zero, List.drop_zero]
  by_cases hk : k ≤ xs.length
  · rw [Nat.min_eq_left hk]
  · rw [Nat.min_eq_right (by omega), List.take_of_length_le (by omega : xs.length ≤ k), List.take_length]
theorem cut_from (xs : List D) (k : Nat) : cutD xs (some (k : Int)) none = xs.drop k := by
  unfold cutD
  rw [HT.sIx_nat, show HT.sIx xs.length xs.length none = xs.length from rfl]
  by_cases hk : k ≤ xs.length
  · rw [Nat.min_eq_left hk]
    exact List.take_of_length_le (by simp)
  · rw [Nat.min_eq_right (by omega), List.drop_of_length_le (by omega : xs.length ≤ k), List.drop_length]
    simp
theorem cut_mid {xs : List D} {j k : Nat} (hk : j + k ≤ xs.length) (h0 : 0 < k) : cutD xs (some (j : Int)) (some (-(k : Int))) = (xs.drop j).take (xs.length - k - j) := by
  unfold cutD
  rw [HT.sIx_nat, sIx_neg (by omega) h0, Nat.min_eq_left (by omega)]
theorem at_neg {xs : List D} {k : Nat} {d : D} (h0 : 0 < k) (hk : k ≤ xs.length) (h : xs[xs.length - k]? = some d) : atR xs (-(k : Int)) S = .ok d S := by
  refine atR_some ?_
  unfold L2.atI L2.ixN
  rw [if_neg (by omega), if_pos (by omega)]
  show xs[(-(k : Int) + xs.length).toNat]? = some d
  rw [show (-(k : Int) + xs.length).toNat = xs.length - k by omega]
  exact h
end
end Ng

set_option Elab.async false
set_option linter.all false
set_option maxRecDepth 100000
/-! Data without cells: ==; loops that end at the first. -/
namespace Ng
open PySem
/-! ### is, isinstance -/
@[simp] theorem cT_isN_tup {S : Store} (ds : List D) : cmpT .is (.tup ds) .non S = .ok false S := ng rfl
@[simp] theorem cR_isN_tup {S : Store} (ds : List D) : cmpR .is (.tup ds) .non S = .ok (.bl false) S := ng rfl
@[simp] theorem cT_inN_tup {S : Store} (ds : List D) : cmpT .isnot (.tup ds) .non S = .ok true S := ng rfl
@[simp] theorem cR_inN_tup {S : Store} (ds : List D) : cmpR .isnot (.tup ds) .non S = .ok (.bl true) S := ng rfl
@[simp] theorem cT_isN_non {S : Store} : cmpT .is .non .non S = .ok true S := ng rfl
@[simp] theorem cR_isN_non {S : Store} : cmpR .is .non .non S = .ok (.bl true) S := ng rfl
@[simp] theorem cT_inN_non {S : Store} : cmpT .isnot .non .non S = .ok false S := ng rfl
@[simp] theorem cR_inN_non {S : Store} : cmpR .isnot .non .non S = .ok (.bl false) S := ng rfl
@[simp] theorem cT_isN_int {S : Store} (i : Int) : cmpT .is (.int i) .non S = .ok false S := ng rfl
@[simp] theorem cR_isN_int {S : Store} (i : Int) : cmpR .is (.int i) .non S = .ok (.bl false) S := ng rfl
@[simp] theorem cT_inN_int {S : Store} (i : Int) : cmpT .isnot (.int i) .non S = .ok true S := ng rfl
@[simp] theorem cR_inN_int {S : Store} (i : Int) : cmpR .isnot (.int i) .non S = .ok (.bl true) S := ng rfl
@[simp] theorem cT_isN_str {S : Store} (x : Str) : cmpT .is (.str x) .non S = .ok false S := ng rfl
@[simp] theorem cR_isN_str {S : Store} (x : Str) : cmpR .is (.str x) .non S = .ok (.bl false) S := ng rfl
@[simp] theorem cT_inN_str {S : Store} (x : Str) : cmpT .isnot (.str x) .non S = .ok true S := ng rfl
@[simp] theorem cR_inN_str {S : Store} (x : Str) : cmpR .isnot (.str x) .non S = .ok (.bl true) S := ng rfl
@[simp] theorem cT_isN_ref {S : Store} (n : Nat) : cmpT .is (.ref n) .non S = .ok false S := ng rfl
@[simp] theorem cR_isN_ref {S : Store} (n : Nat) : cmpR .is (.ref n) .non S = .ok (.bl false) S := ng rfl
@[simp] theorem cT_inN_ref {S : Store} (n : Nat) : cmpT .isnot (.ref n) .non S = .ok true S := ng rfl
@[simp] theorem cR_inN_ref {S : Store} (n : Nat) : cmpR .isnot (.ref n) .non S = .ok (.bl true) S := ng rfl
@[simp] theorem cT_isN_bl {S : Store} (b : Bool) : cmpT .is (.bl b) .non S = .ok false S := ng rfl
@[simp] theorem cR_isN_bl {S : Store} (b : Bool) : cmpR .is (.bl b) .non S = .ok (.bl false) S := ng rfl
@[simp] theorem cT_inN_bl {S : Store} (b : Bool) : cmpT .isnot (.bl b) .non S = .ok true S := ng rfl
@[simp] theorem cR_inN_bl {S : Store} (b : Bool) : cmpR .isnot (.bl b) .non S = .ok (.bl true) S := ng rfl
@[simp] theorem cT_isB {S : Store} (a b : Bool) : cmpT .is (.bl a) (.bl b) S = .ok (decide (a = b)) S := ng rfl
@[simp] theorem cT_inB {S : Store} (a b : Bool) : cmpT .isnot (.bl a) (.bl b) S = .ok (!decide (a = b)) S := ng rfl
@[simp] theorem cR_isB {S : Store} (a b : Bool) : cmpR .is (.bl a) (.bl b) S = .ok (.bl (decide (a = b))) S := ng rfl
@[simp] theorem isi_int_int {S : Store} (i : Int) : isiR [.int] (.int i) S = .ok (.bl true) S := ng rfl
@[simp] theorem isi_int_bool {S : Store} (i : Int) : isiR [.bool] (.int i) S = .ok (.bl false) S := ng rfl
@[simp] theorem isi_int_str {S : Store} (i : Int) : isiR [.str] (.int i) S = .ok (.bl false) S := ng rfl
@[simp] theorem isi_int_tuple {S : Store} (i : Int) : isiR [.tuple] (.int i) S = .ok (.bl false) S := ng rfl
@[simp] theorem isi_int_list {S : Store} (i : Int) : isiR [.list] (.int i) S = .ok (.bl false) S := ng rfl
@[simp] theorem isi_int_dict {S : Store} (i : Int) : isiR [.dict] (.int i) S = .ok (.bl false) S := ng rfl
@[simp] theorem isi_str_int {S : Store} (x : Str) : isiR [.int] (.str x) S = .ok (.bl false) S := ng rfl
@[simp] theorem isi_str_bool {S : Store} (x : Str) : isiR [.bool] (.str x) S = .ok (.bl false) S := ng rfl
@[simp] theorem isi_str_str {S : Store} (x : Str) : isiR [.str] (.str x) S = .ok (.bl true) S := ng rfl
@[simp] theorem isi_str_tuple {S : Store} (x : Str) : isiR [.tuple] (.str x) S = .ok (.bl false) S := ng rfl
@[simp] theorem isi_str_list {S : Store} (x : Str) : isiR [.list] (.str x) S = .ok (.bl false) S := ng rfl
@[simp] theorem isi_str_dict {S : Store} (x : Str) : isiR [.dict] (.str x) S = .ok (.bl false) S := ng rfl
@[simp] theorem isi_tup_int {S : Store} (ds : List D) : isiR [.int] (.tup ds) S = .ok (.bl false) S := ng rfl
@[simp] theorem isi_tup_bool {S : Store} (ds : List D) : isiR [.bool] (.tup ds) S = .ok (.bl false) S := ng rfl
@[simp] theorem isi_tup_str {S : Store} (ds : List D) : isiR [.str] (.tup ds) S = .ok (.bl false) S := ng rfl
@[simp] theorem isi_tup_tuple {S : Store} (ds : List D) : isiR [.tuple] (.tup ds) S = .ok (.bl true) S := ng rfl
@[simp] theorem isi_tup_list {S : Store} (ds : List D) : isiR [.list] (.tup ds) S = .ok (.bl false) S := ng rfl
@[simp] theorem isi_tup_dict {S : Store} (ds : List D) : isiR [.dict] (.tup ds) S = .ok (.bl false) S := ng rfl
@[simp] theorem isi_non_int {S : Store} : isiR [.int] .non S = .ok (.bl false) S := ng rfl
@[simp] theorem isi_non_bool {S : Store} : isiR [.bool] .non S = .ok (.bl false) S := ng rfl
@[simp] theorem isi_non_str {S : Store} : isiR [.str] .non S = .ok (.bl false) S := ng rfl
@[simp] theorem isi_non_tuple {S : Store} : isiR [.tuple] .non S = .ok (.bl false) S := ng rfl
@[simp] theorem isi_non_list {S : Store} : isiR [.list] .non S = .ok (.bl false) S := ng rfl
@[simp] theorem isi_non_dict {S : Store} : isiR [.dict] .non S = .ok (.bl false) S := ng rfl
@[simp] theorem isi_bl_int {S : Store} (b : Bool) : isiR [.int] (.bl b) S = .ok (.bl true) S := ng rfl
@[simp] theorem isi_bl_bool {S : Store} (b : Bool) : isiR [.bool] (.bl b) S = .ok (.bl true) S := ng rfl
@[simp] theorem isi_bl_str {S : Store} (b : Bool) : isiR [.str] (.bl b) S = .ok (.bl false) S := ng rfl
@[simp] theorem isi_bl_tuple {S : Store} (b : Bool) : isiR [.tuple] (.bl b) S = .ok (.bl false) S := ng rfl
@[simp] theorem isi_bl_list {S : Store} (b : Bool) : isiR [.list] (.bl b) S = .ok (.bl false) S := ng rfl
@[simp] theorem isi_bl_dict {S : Store} (b : Bool) : isiR [.dict] (.bl b) S = .ok (.bl false) S := ng rfl
@[simp] theorem isi_lst {S : Store} {n : Nat} {ds : List D} (h : S[n]? = some (.lst ds)) (t : Ty) : isiR [t] (.ref n) S = .ok (.bl (t == .list)) S := by simp [isiR, isTys, isTy, h]
/-! ### texts, «in», items at written places -/
theorem chr_inj {a b : Char} (h : a.toNat = b.toNat) : a = b := Char.ext (UInt32.toNat_inj.mp h)
theorem map_inj' {α β : Type} {f : α → β} (hf : ∀ a b, f a = f b → a = b) : ∀ {xs ys : List α}, xs.map f = ys.map f → xs = ys
  | [], [], _ => rfl
  | [], _ :: _, h => by simp at h
  | _ :: _, [], h => by simp at h
  | x :: xs, y :: ys, h => by
    simp only [List.map_cons, List.cons.injEq] at h
    rw [hf _ _ h.1, map_inj' hf h.2]
@[simp] theorem ofStr_inj (a b : String) : (Str.ofString a = Str.ofString b) = (a = b) := by
  apply propext
  constructor
  · intro h
    have h2 := congrArg (fun s : Str => s.cps.toList) h
    simp only [Str.ofString_eq_toList] at h2
    exact String.toList_inj.mp (map_inj' (fun a b => chr_inj) h2)
  · intro h; rw [h]
@[simp] theorem cT_in {S : Store} (x ds) (h : (flatD x && ds.all flatD) = true) : cmpT .in_ x (.tup ds) S = .ok (inF x ds) S := by simp [cmpT, cmp2, h]
@[simp] theorem cT_notin {S : Store} (x ds) (h : (flatD x && ds.all flatD) = true) : cmpT .notin x (.tup ds) S = .ok (!inF x ds) S := by simp [cmpT, cmp2, h]
@[simp] theorem cR_in {S : Store} (x ds) (h : (flatD x && ds.all flatD) = true) : cmpR .in_ x (.tup ds) S = .ok (.bl (inF x ds)) S := by simp [cmpR, cmp2, h]
@[simp] theorem cT_inl {S : Store} (x ds) {n : Nat} (hS : S[n]? = some (.lst ds)) (h : (flatD x && ds.all flatD) = true) : cmpT .in_ x (.ref n) S = .ok (inF x ds) S := by simp [cmpT, cmp2, hS, h]
@[simp] theorem inF_nil (x : D) : inF x [] = false := ng rfl
@[simp] theorem inF_cons (x y : D) (ys : List D) : inF x (y :: ys) = (eqF y x || inF x ys) := ng rfl
@[simp] theorem eqF_str (x y : Str) : eqF (.str x) (.str y) = decide (x = y) := ng rfl
@[simp] theorem eqF_int (x y : Int) : eqF (.int x) (.int y) = (x == y) := ng rfl
/-- an item at a written place -/
@[simp] theorem at_lit {ds : List D} {S : Store} (n : Nat) (h : n < ds.length) : atR ds (no_index (OfNat.ofNat n : Int)) S = .ok ds[n] S := by
  exact atR_nat (List.getElem?_eq_getElem h)

mutual
def pyD : D → PyData
  | .non => .none
  | .bl b => .bool b
  | .int i => .int i
  | .str x => .str x
  | .tup ds => .tuple (pyDs ds)
  | .ref _ => .none
  | .exc .. => .none
def pyDs : List D → List PyData
  | [] => []
  | d :: ds => pyD d :: pyDs ds
end
mutual
/-- neither cells nor exceptions -/
def pureD : D → Bool
  | .tup ds => pureDs ds
  | .ref _ => false
  | .exc .. => false
  | .str x => PyData.strOk x
  | _ => true
def pureDs : List D → Bool
  | [] => true
  | d :: ds => pureD d && pureDs ds
end
mutual
/-- nor truth values -/
def nbD : D → Bool
  | .tup ds => nbDs ds
  | .ref _ => false
  | .exc .. => false
  | .bl _ => false
  | .str x => PyData.strOk x
  | _ => true
def nbDs : List D → Bool
  | [] => true
  | d :: ds => nbD d && nbDs ds
end
mutual
def depD : D → Nat
  | .tup ds => depDs ds + 1
  | _ => 0
def depDs : List D → Nat
  | [] => 0
  | d :: ds => max (depD d) (depDs ds)
end
mutual
theorem nb_pure : ∀ {d : D}, nbD d = true → pureD d = true
  | .non, _ => rfl
  | .int _, _ => rfl
  | .str _, h => by simpa [pureD, nbD] using h
  | .tup ds, h => by simp only [pureD]; exact nbs_pure (by simpa [nbD] using h)
  | .bl _, h => by simp [nbD] at h
  | .ref _, h => by simp [nbD] at h
  | .exc .., h => by simp [nbD] at h
theorem nbs_pure : ∀ {ds : List D}, nbDs ds = true → pureDs ds = true
  | [], _ => rfl
  | d :: ds, h => by
    simp only [nbDs, Bool.and_eq_true] at h
    simp only [pureDs, nb_pure h.1, nbs_pure h.2, Bool.and_self]
end
mutual
theorem toPy_pure {rf : Nat → Option PyData} : ∀ {d : D}, pureD d = true → toPyW rf d = some (pyD d)
  | .non, _ => rfl
  | .bl _, _ => rfl
  | .int _, _ => rfl
  | .str _, _ => rfl
  | .tup ds, h => by simp only [toPyW, pyD, toPys_pure (rf := rf) (ds := ds) (by simpa [pureD] using h), Option.map_some]
  | .ref _, h => by simp [pureD] at h
  | .exc .., h => by simp [pureD] at h
theorem toPys_pure {rf : Nat → Option PyData} : ∀ {ds : List D}, pureDs ds = true → toPysW rf ds = some (pyDs ds)
  | [], _ => rfl
  | d :: ds, h => by
    simp only [pureDs, Bool.and_eq_true] at h
    simp only [toPysW, pyDs, toPy_pure (rf := rf) h.1, toPys_pure (rf := rf) h.2]
end
mutual
theorem can_pure : ∀ {d : D}, pureD d = true → (pyD d).canLay0 = true
  | .non, _ => by simp [pyD, PyData.canLay0]
  | .bl _, _ => by simp [pyD, PyData.canLay0]
  | .int _, _ => by simp [pyD, PyData.canLay0]
  | .str _, h => by simpa [pyD, PyData.canLay0, pureD] using h
  | .tup ds, h => by simp only [pyD, PyData.canLay0]; exact cans_pure (by simpa [pureD] using h)
  | .ref _, h => by simp [pureD] at h
  | .exc .., h => by simp [pureD] at h
theorem cans_pure : ∀ {ds : List D}, pureDs ds = true → PyData.canLayAll0 (pyDs ds) = true
  | [], _ => by simp [pyDs, PyData.canLayAll0]
  | d :: ds, h => by
    simp only [pureDs, Bool.and_eq_true] at h
    simp only [pyDs, PyData.canLayAll0, can_pure (d := d) h.1, cans_pure (ds := ds) h.2, Bool.and_self]
end
mutual
theorem dep_pure : ∀ {d : D}, (pyD d).depth = depD d
  | .non => by simp [pyD, PyData.depth, depD]
  | .bl _ => by simp [pyD, PyData.depth, depD]
  | .int _ => by simp [pyD, PyData.depth, depD]
  | .str _ => by simp [pyD, PyData.depth, depD]
  | .tup ds => by simp only [pyD, PyData.depth, depD, deps_pure]
  | .ref _ => by simp [pyD, PyData.depth, depD]
  | .exc .. => by simp [pyD, PyData.depth, depD]
theorem deps_pure : ∀ {ds : List D}, PyData.depthAll (pyDs ds) = depDs ds
  | [] => by simp [pyDs, PyData.depthAll, depDs]
  | d :: ds => by simp only [pyDs, PyData.depthAll, depDs, dep_pure (d := d), deps_pure (ds := ds)]
end
theorem shaped_pure {d : D} (hp : pureD d = true) (h : depD d ≤ 60) : SeqAt.shaped (pyD d) = true := by
  simp only [SeqAt.shaped, can_pure hp, dep_pure, Bool.true_and]
  exact decide_eq_true (by omega)
theorem shapedL_pure {ds : List D} (hp : pureDs ds = true) (h : depDs ds ≤ 60) : SeqAt.shaped (.list (pyDs ds)) = true := by
  simp only [SeqAt.shaped, PyData.canLay0, cans_pure hp, PyData.depth, deps_pure, Bool.true_and]
  exact decide_eq_true (by omega)
/-- == of data -/
def eqvD (x y : D) : Bool := PyData.eqv (pyD x) (pyD y)
def eqvDs (x y : List D) : Bool := PyData.eqvAll (pyDs x) (pyDs y)
theorem eqD_pure {S : Store} {x y : D} (hx : pureD x = true) (hy : pureD y = true) (dx : depD x ≤ 60) (dy : depD y ≤ 60) : eqD S x y = some (eqvD x y) := by
  have e1 : toPy S x = some (pyD x) := toPy_pure hx
  have e2 : toPy S y = some (pyD y) := toPy_pure hy
  refine eqD_of ?_
  unfold eqD0
  split
  · simp [eqvD, pyD, PyData.eqv]; rfl
  · simp [eqvD, pyD, PyData.eqv]
    rename_i a b
    by_cases h : a = b <;> simp [h]
  · simp [eqvD, pyD, PyData.eqv]; rfl
  · simp [eqvD, pyD, PyData.eqv]
  · simp only [e1, e2, shaped_pure hx dx, shaped_pure hy dy, Bool.and_self, if_true, eqvD]
theorem toPy_lst {S : Store} {m : Nat} {xs : List D} (h1 : S[m]? = some (.lst xs)) (hx : pureDs xs = true) : toPy S (.ref m) = some (.list (pyDs xs)) := by
  unfold toPy toPyW toPyN
  rw [h1]
  simp only [toPys_pure (rf := toPyN S 5) hx, Option.map_some]
theorem eqD_lists {S : Store} {m n : Nat} {xs ys : List D} (h1 : S[m]? = some (.lst xs)) (h2 : S[n]? = some (.lst ys)) (hx : pureDs xs = true) (hy : pureDs ys = true) (dx : depDs xs ≤ 60) (dy : depDs ys ≤ 60) :
    eqD S (.ref m) (.ref n) = some (eqvDs xs ys) := by
  refine eqD_of ?_
  unfold eqD0
  simp only [toPy_lst h1 hx, toPy_lst h2 hy, shapedL_pure hx dx, shapedL_pure hy dy, Bool.and_self, if_true, eqvDs, PyData.eqv]
mutual
theorem eqv_refl : ∀ (x : D), eqvD x x = true
  | .non => by simp [eqvD, pyD, PyData.eqv]
  | .bl b => by simp [eqvD, pyD, PyData.eqv]
  | .int i => by simp [eqvD, pyD, PyData.eqv]
  | .str x => by simp [eqvD, pyD, PyData.eqv]
  | .tup ds => by
    have := eqvs_refl ds
    simpa [eqvD, eqvDs, pyD, PyData.eqv] using this
  | .ref _ => by simp [eqvD, pyD, PyData.eqv]
  | .exc .. => by simp [eqvD, pyD, PyData.eqv]
theorem eqvs_refl : ∀ (xs : List D), eqvDs xs xs = true
  | [] => by simp [eqvDs, pyDs, PyData.eqvAll]
  | x :: xs => by
    have h1 := eqv_refl x
    have h2 := eqvs_refl xs
    simp only [eqvD, eqvDs] at h1 h2
    simp only [eqvDs, pyDs, PyData.eqvAll, h1, h2, Bool.and_self]
end
theorem eqv_tup (xs ys : List D) : eqvD (.tup xs) (.tup ys) = eqvDs xs ys := by simp only [eqvD, pyD, PyData.eqv, eqvDs]
theorem eqvs_cons (x y : D) (xs ys : List D) : eqvDs (x :: xs) (y :: ys) = (eqvD x y && eqvDs xs ys) := by simp only [eqvDs, pyDs, PyData.eqvAll, eqvD]
theorem eqvs_nil : eqvDs [] [] = true := by simp [eqvDs, pyDs, PyData.eqvAll]
theorem eqvs_nc (y : D) (ys : List D) : eqvDs [] (y :: ys) = false := by simp [eqvDs, pyDs, PyData.eqvAll]
theorem eqvs_cn (y : D) (ys : List D) : eqvDs (y :: ys) [] = false := by simp [eqvDs, pyDs, PyData.eqvAll]
theorem eqv_int (i j : Int) : eqvD (.int i) (.int j) = decide (i = j) := by simp only [eqvD, pyD, PyData.eqv]; rfl
theorem eqv_str (i j : Str) : eqvD (.str i) (.str j) = decide (i = j) := by
  simp only [eqvD, pyD, PyData.eqv]
  by_cases h : i = j <;> simp [h]
theorem eqv_bl (i j : Bool) : eqvD (.bl i) (.bl j) = decide (i = j) := by simp only [eqvD, pyD, PyData.eqv]; cases i <;> cases j <;> rfl
mutual
theorem eqv_nb : ∀ {x y : D}, nbD x = true → nbD y = true → eqvD x y = decide (x = y)
  | .non, .non, _, _ => by simp [eqvD, pyD, PyData.eqv]
  | .non, .int _, _, _ => by simp [eqvD, pyD, PyData.eqv]
  | .non, .str _, _, _ => by simp [eqvD, pyD, PyData.eqv]
  | .non, .tup _, _, _ => by simp [eqvD, pyD, PyData.eqv]
  | .int _, .non, _, _ => by simp [eqvD, pyD, PyData.eqv]
  | .int i, .int j, _, _ => by rw [eqv_int]; simp
  | .int _, .str _, _, _ => by simp [eqvD, pyD, PyData.eqv]
  | .int _, .tup _, _, _ => by simp [eqvD, pyD, PyData.eqv]
  | .str _, .non, _, _ => by simp [eqvD, pyD, PyData.eqv]
  | .str _, .int _, _, _ => by simp [eqvD, pyD, PyData.eqv]
  | .str i, .str j, _, _ => by rw [eqv_str]; simp
  | .str _, .tup _, _, _ => by simp [eqvD, pyD, PyData.eqv]
  | .tup _, .non, _, _ => by simp [eqvD, pyD, PyData.eqv]
  | .tup _, .int _, _, _ => by simp [eqvD, pyD, PyData.eqv]
  | .tup _, .str _, _, _ => by simp [eqvD, pyD, PyData.eqv]
  | .tup xs, .tup ys, h1, h2 => by
    rw [eqv_tup, eqvs_nb (xs := xs) (ys := ys) (by simpa [nbD] using h1) (by simpa [nbD] using h2)]
    simp
  | .bl _, _, h, _ => by simp [nbD] at h
  | .ref _, _, h, _ => by simp [nbD] at h
  | .exc .., _, h, _ => by simp [nbD] at h
  | _, .bl _, _, h => by simp [nbD] at h
  | _, .ref _, _, h => by simp [nbD] at h
  | _, .exc .., _, h => by simp [nbD] at h
theorem eqvs_nb : ∀ {xs ys : List D}, nbDs xs = true → nbDs ys = true → eqvDs xs ys = decide (xs = ys)
  | [], [], _, _ => by simp [eqvs_nil]
  | [], y :: ys, _, _ => by simp [eqvs_nc]
  | x :: xs, [], _, _ => by simp [eqvs_cn]
  | x :: xs, y :: ys, h1, h2 => by
    simp only [nbDs, Bool.and_eq_true] at h1 h2
    rw [eqvs_cons, eqv_nb h1.1 h2.1, eqvs_nb h1.2 h2.2]
    by_cases e1 : x = y <;> by_cases e2 : xs = ys <;> simp [e1, e2]
end
mutual
theorem pure_refs : ∀ {d : D}, pureD d = true → d.refs = []
  | .non, _ => rfl
  | .bl _, _ => rfl
  | .int _, _ => rfl
  | .str _, _ => rfl
  | .tup ds, h => by simp only [D.refs]; exact pures_refs (by simpa [pureD] using h)
  | .ref _, h => by simp [pureD] at h
  | .exc .., h => by simp [pureD] at h
theorem pures_refs : ∀ {ds : List D}, pureDs ds = true → D.refsL ds = []
  | [], _ => rfl
  | d :: ds, h => by
    simp only [pureDs, Bool.and_eq_true] at h
    simp only [D.refsL, pure_refs h.1, pures_refs h.2, List.append_nil]
end
/-! ### x in xs, xs.index(x) of data without truth values -/
theorem inN_nb {S : Store} {x : D} {xs : List D} (hx : nbD x = true) (hxs : nbDs xs = true) (dx : depD x ≤ 60) (ds : depDs xs ≤ 60) : inN S x xs = some (decide (x ∈ xs)) := by
  have e1 : toPy S x = some (pyD x) := toPy_pure (nb_pure hx)
  unfold inN
  simp only [e1, toPys_pure (rf := toPyN S 6) (nbs_pure hxs), shaped_pure (nb_pure hx) dx, shapedL_pure (nbs_pure hxs) ds, Bool.and_self, if_true, Option.some.injEq]
  clear ds
  induction xs with
  | nil => rfl
  | cons y ys ih =>
    simp only [nbDs, Bool.and_eq_true] at hxs
    have e := eqv_nb hxs.1 hx
    simp only [eqvD] at e
    simp only [pyDs, List.any_cons, e, ih hxs.2, List.mem_cons]
    by_cases h : y = x
    · simp [h]
    · simp [h, Ne.symm h]
theorem indexN_nb {S : Store} {x : D} {xs : List D} (hx : nbD x = true) (hxs : nbDs xs = true) (dx : depD x ≤ 60) (ds : depDs xs ≤ 60) : indexN S x xs = xs.findIdx? (fun y => decide (y = x)) := by
  have e1 : toPy S x = some (pyD x) := toPy_pure (nb_pure hx)
  unfold indexN
  simp only [e1, toPys_pure (rf := toPyN S 6) (nbs_pure hxs), shaped_pure (nb_pure hx) dx, shapedL_pure (nbs_pure hxs) ds, Bool.and_self, if_true]
  clear ds
  induction xs with
  | nil => rfl
  | cons y ys ih =>
    simp only [nbDs, Bool.and_eq_true] at hxs
    have e := eqv_nb hxs.1 hx
    simp only [eqvD] at e
    simp only [pyDs, List.findIdx?_cons, e, ih hxs.2]
/-- the number of a wanted item -/
def isAt (T : List D) (q : D → Bool) : D → Bool
  | .int i => q (T.getD i.toNat .non)
  | _ => false
/-- the first number whose item is the wanted one -/
theorem find_rng {T : List D} {q : D → Bool} : ∀ (n lo : Nat), lo + n = T.length → (rngD lo n).find? (isAt T q) = ((T.drop lo).findIdx? q).map fun j => .int ((lo + j : Nat) : Int)
  | 0, lo, h => by
    rw [List.drop_eq_nil_iff.mpr (by omega)]
    rfl
  | n + 1, lo, h => by
    have hlt : lo < T.length := by omega
    have ih := find_rng (T := T) (q := q) n (lo + 1) (by omega)
    have e : rngD (lo : Int) (n + 1) = .int lo :: rngD ((lo + 1 : Nat) : Int) n := by
      unfold rngD
      rw [List.range_succ_eq_map, List.map_cons, List.map_map]
      simp only [List.cons.injEq]
      refine ⟨by simp, List.map_congr_left fun i _ => ?_⟩
      simp only [Function.comp_apply, D.int.injEq]
      omega
    rw [e, List.drop_eq_getElem_cons hlt, List.find?_cons, List.findIdx?_cons]
    have e2 : T.getD (Int.toNat (lo : Int)) .non = T[lo] := by rw [Int.toNat_natCast, List.getD_eq_getElem?_getD, List.getElem?_eq_getElem hlt]; rfl
    have e3 : isAt T q (.int lo) = q T[lo] := by show q (T.getD (Int.toNat (lo : Int)) .non) = _; rw [e2]
    simp only [e3]
    cases hq : q T[lo] with
    | true => simp
    | false =>
      simp only [ih]
      cases (T.drop (lo + 1)).findIdx? q with
      | none => rfl
      | some j => simp; omega
theorem cT_eqD {S : Store} {x y : D} {b : Bool} (h : eqD S x y = some b) : cmpT .eq x y S = .ok b S := by simp [cmpT, cmp2, h]
theorem cT_neD {S : Store} {x y : D} {b : Bool} (h : eqD S x y = some b) : cmpT .ne x y S = .ok (!b) S := by simp [cmpT, cmp2, h]
theorem cR_eqD {S : Store} {x y : D} {b : Bool} (h : eqD S x y = some b) : cmpR .eq x y S = .ok (.bl b) S := by simp [cmpR, cmp2, h]
theorem cR_neD {S : Store} {x y : D} {b : Bool} (h : eqD S x y = some b) : cmpR .ne x y S = .ok (.bl (!b)) S := by simp [cmpR, cmp2, h]
/-! ### loops -/
theorem rng_at0 {n j : Nat} {x : D} (h : (rngD 0 n)[j]? = some x) : j < n ∧ x = .int j := by
  obtain ⟨h1, h2⟩ := rng_at h
  rw [Int.zero_add] at h2
  exact ⟨h1, h2⟩
/-- a loop that returns at the first item with p -/
theorem for_first {f : D → Env → Store → O} {S : Store} {ck : Store → Bool} {p : D → Bool} {r : D → D} (I : Env → Prop) (hck : ck S = true) : ∀ (ds : List D) (ρ : Env), I ρ →
    (∀ x ∈ ds, ∀ ρ, I ρ → (p x = true ∧ f x ρ S = .ret (r x) S) ∨ (p x = false ∧ ∃ ρ', f x ρ S = .nx ρ' S ∧ I ρ')) →
    (∃ x, ds.find? p = some x ∧ forL ck f ds ρ S = .ret (r x) S) ∨ (ds.find? p = none ∧ ∃ ρ', forL ck f ds ρ S = .nx ρ' S ∧ I ρ')
  | [], ρ, h0, _ => .inr ⟨rfl, ρ, by simp [forL, hck], h0⟩
  | x :: ds, ρ, h0, step => by
    rcases step x List.mem_cons_self ρ h0 with ⟨hp, e⟩ | ⟨hp, ρ', e, h1⟩
    · exact .inl ⟨x, by simp [hp], by simp [forL, hck, e]⟩
    · have ih := for_first I hck ds ρ' h1 fun y hy => step y (List.mem_cons_of_mem _ hy)
      simp only [List.find?_cons, hp, forL, hck, cond_true, e]
      exact ih
end Ng

set_option Elab.async false
set_option linter.all false
set_option maxRecDepth 100000
/-! Comprehensions of two clauses; what is kept behind a call that wrote an elder list. -/
namespace Ng
open PySem
@[simp] theorem ofStr_beq (a b : String) : (Str.ofString a == Str.ofString b) = (a == b) := by
  by_cases h : a = b
  · subst h; simp
  · rw [beq_eq_false_iff_ne.mpr h, beq_eq_false_iff_ne.mpr (fun e => h (by rwa [ofStr_inj] at e))]
theorem lc2_loop {own own2 : List Nat} {tg tg2 : E} {src2 : Env → Store → R It} {elt : Env → Store → R D} {ρ : Env} {S : Store} {lk : Option (Nat × Cell)} {ys : List D} {g : D → D → D} (hy : ys.length ≤ 100) (hck : ∀ c, ckS lk (S ++ [c]) = true) :
    ∀ (ds : List D) (acc : List D), acc.length + ds.length * 100 ≤ 1000000 →
    (∀ x ∈ ds, ∃ ρ2, asgT tg x (wipeE ρ own) = some ρ2 ∧ (∀ c, src2 ρ2 (S ++ [c]) = .ok ⟨ys, none⟩ (S ++ [c])) ∧ ∀ y ∈ ys, ∀ c, lcF own2 tg2 (fun _ S => .ok true S) elt ρ2 y (S ++ [c]) = .ok (some (g x y)) (S ++ [c])) →
    lc2L (ckS lk) (lc2G S.length own own2 tg tg2 src2 elt ρ) ds (S ++ [.lst acc]) = .ok () (S ++ [.lst (acc ++ ds.flatMap fun x => ys.map (g x))])
  | [], acc, _, _ => by simp [lc2L, hck]
  | x :: ds, acc, hl, hf => by
    obtain ⟨ρ2, h1, h2, h3⟩ := hf x List.mem_cons_self
    have hl2 : acc.length + ys.length + ds.length * 100 ≤ 1000000 := by simp at hl; omega
    have e := lcL_pure (n := S.length) (ck := ckS none) (f := lcF own2 tg2 (fun _ S => .ok true S) elt ρ2) (g := fun y => some (g x y)) ys acc (S ++ [.lst acc]) (by simp) (by omega) (fun _ => rfl) (fun y hy acc' => by rw [set0]; exact h3 y hy _)
    have e1 : lc2G S.length own own2 tg tg2 src2 elt ρ x (S ++ [.lst acc]) = .ok () (S ++ [.lst (acc ++ ys.map (g x))]) := by
      unfold lc2G
      rw [h1]
      simp only [lc2F, h2, bind_ok]
      rw [e]
      simp
    have ih := lc2_loop (tg := tg) (tg2 := tg2) (src2 := src2) (elt := elt) (own := own) (own2 := own2) (ρ := ρ) hy hck ds (acc ++ ys.map (g x)) (by simp; omega) fun z hz => hf z (List.mem_cons_of_mem _ hz)
    simp only [lc2L, hck, cond_true, e1, thenU, ih, List.flatMap_cons, List.append_assoc]
theorem lc2_pure {own own2 : List Nat} {tg tg2 : E} {src2 : Env → Store → R It} {elt : Env → Store → R D} {ρ : Env} {S : Store} {it : It} {ys : List D} {g : D → D → D} (hl : it.ds.length ≤ 1000) (hy : ys.length ≤ 100) (hck : ∀ c, ckS it.lk (S ++ [c]) = true)
    (hf : ∀ x ∈ it.ds, ∃ ρ2, asgT tg x (wipeE ρ own) = some ρ2 ∧ (∀ c, src2 ρ2 (S ++ [c]) = .ok ⟨ys, none⟩ (S ++ [c])) ∧ ∀ y ∈ ys, ∀ c, lcF own2 tg2 (fun _ S => .ok true S) elt ρ2 y (S ++ [c]) = .ok (some (g x y)) (S ++ [c])) :
    lc2R own own2 tg tg2 src2 elt ρ it S = .ok (.ref S.length) (S ++ [.lst (it.ds.flatMap fun x => ys.map (g x))]) := by
  unfold lc2R
  rw [lc2_loop hy hck it.ds [] (by simp; omega) hf]
  simp
section
variable {S : Store} {l : List Cell}
theorem fin_genC {S' : Store} {d : D} {L : List Nat} (hc : chg S S' = []) (S1 : Store) (hk : ∀ f, keepE f S S' = S1) (hr : reach S' S.length 100000 d.refs [] = L) (h : keepC S S' d.refs L = true) :
    fin S d S' = .ok (d.ren (renOf S.length L)) (S1 ++ L.filterMap fun n => (S'[n]?).map (Cell.ren (renOf S.length L))) := by
  unfold fin
  simp only [hc, List.append_nil, hr, h, if_true, keepS, hk]
/-- a fresh flat list comes out where an elder flat cell was written -/
theorem fin_at_set {ds : List D} {cs : List Cell} {i p : Nat} {c : Cell} (hc : cs[i]? = some (.lst ds)) (h : D.refsL ds = []) (hp : c.refs = []) : fin S (.ref (S.length + i)) (S.set p c ++ cs) = .ok (.ref S.length) (S.set p c ++ [.lst ds]) := by
  have hi := (List.getElem?_eq_some_iff.mp hc).1
  have hg : (S.set p c ++ cs)[S.length + i]? = some (.lst ds) := by
    have := getk (S := S.set p c) (l := cs) i
    rw [List.length_set] at this
    rw [this, hc]
  have hr : reach (S.set p c ++ cs) S.length 100000 (D.refs (.ref (S.length + i))) [] = [S.length + i] := by
    show reach _ _ _ [S.length + i] [] = _
    rw [show (100000 : Nat) = 99999 + 1 from rfl, reach_step hg (by omega) (by simp)]
    show reach _ _ _ (D.refsL ds ++ []) _ = _
    rw [h, List.append_nil, reach_nil, List.nil_append]
  rw [fin_genC (L := [S.length + i]) (chg_set cs hp) (S.set p c) (fun f => keepE_set cs hp) hr ?_]
  · simp only [List.filterMap_cons, hg, Option.map_some, List.filterMap_nil, D.ren, Cell.ren]
    rw [D.renL_id ds fun n hn => by rw [h] at hn; cases hn]
    simp [renOf]
    omega
  · unfold keepC
    simp only [List.flatMap_cons, List.flatMap_nil, hg, Cell.refs, h, D.refs]
    simp
    omega
end
end Ng

set_option Elab.async false
set_option linter.all false
set_option maxRecDepth 100000
/-! Dicts with tuple keys: rewriting. -/
namespace Ng
open PySem
section
variable {S : Store} {n m : Nat} {kvs a b : List (List Int × D)} {ks : List D} {k : List Int} {d : D} {ρ : Env}
theorem ints_map : ∀ xs : List Int, intsD (xs.map D.int) = some xs
  | [] => rfl
  | x :: xs => by simp [intsD, ints_map xs]
@[simp] theorem key_xy (x y : Int) : intsD [.int x, .int y] = some [x, y] := ng rfl
theorem ddR_ok {ps : List (D × D)} (h : S[n]? = some (.dct [])) (hk : keysI ps = some kvs) : ddR n ps S = .ok (.ref n) (S.set n (.dct (dPuts [] kvs))) := by
  simp only [ddR, h, hk]
theorem ix_dct (h : S[n]? = some (.dct kvs)) (hk : intsD ks = some k) (hg : dGet kvs k = some d) : ix2 (.ref n) (.tup ks) S = .ok d S := by
  simp only [ix2, h, hk, hg]
theorem ist_dct (h : S[n]? = some (.dct kvs)) (hk : intsD ks = some k) (hl : kvs.length < linesz) : istO d (.ref n) (.tup ks) ρ S = .nx ρ (S.set n (.dct (dPut kvs k d))) := by
  simp only [istO, h, hk, hl, if_true]
theorem cT_in_dct (h : S[n]? = some (.dct kvs)) (hk : intsD ks = some k) : cmpT .in_ (.tup ks) (.ref n) S = .ok (dGet kvs k).isSome S := by
  simp [cmpT, cmp2, h, keyI, hk]
theorem cT_notin_dct (h : S[n]? = some (.dct kvs)) (hk : intsD ks = some k) : cmpT .notin (.tup ks) (.ref n) S = .ok (!(dGet kvs k).isSome) S := by
  simp [cmpT, cmp2, h, keyI, hk]
theorem isi_dct (h : S[n]? = some (.dct kvs)) (t : Ty) : isTy S t (.ref n) = some (t == .dict) := by simp only [isTy, h]
theorem dGet_cons' {p : List Int × D} {r : List (List Int × D)} {k : List Int} : dGet (p :: r) k = if p.1 = k then some p.2 else dGet r k := by
  unfold dGet
  by_cases h : p.1 = k <;> simp [List.find?_cons, h]
@[simp] theorem dGet_nil {k : List Int} : dGet [] k = none := ng rfl
theorem dGet_app {p q : List (List Int × D)} {k : List Int} : dGet (p ++ q) k = match dGet p k with | some d => some d | none => dGet q k := by
  induction p with
  | nil => rfl
  | cons x p ih =>
    rw [List.cons_append, dGet_cons', dGet_cons', ih]
    by_cases h : x.1 = k
    · rw [if_pos h, if_pos h]
    · rw [if_neg h, if_neg h]
theorem dGet_map {k j : List Int} {d : D} : ∀ {p : List (List Int × D)}, dGet (p.map fun x => if x.1 = k then (x.1, d) else x) j = (dGet p j).map fun y => if j = k then d else y
  | [] => rfl
  | x :: p => by
    rw [List.map_cons, dGet_cons', dGet_cons', dGet_map (p := p)]
    by_cases h : x.1 = k
    · rw [if_pos h]
      by_cases e : x.1 = j
      · rw [if_pos e, if_pos e, Option.map_some, if_pos (e.symm.trans h)]
      · rw [if_neg e, if_neg e]
    · rw [if_neg h]
      by_cases e : x.1 = j
      · rw [if_pos e, if_pos e, Option.map_some, if_neg (fun z => h (e.trans z))]
      · rw [if_neg e, if_neg e]
/-- what stands behind a store -/
theorem dGet_put {j : List Int} : dGet (dPut kvs k d) j = if j = k then some d else dGet kvs j := by
  unfold dPut
  cases h : dGet kvs k with
  | none =>
    simp only [Option.isSome_none, Bool.false_eq_true, if_false]
    rw [dGet_app]
    by_cases e : j = k
    · subst e; rw [h, if_pos rfl]; simp [dGet_cons']
    · rw [if_neg e]
      cases dGet kvs j with
      | some x => rfl
      | none => simp [dGet_cons', Ne.symm e]
  | some x =>
    simp only [Option.isSome_some, if_true]
    rw [dGet_map]
    by_cases e : j = k
    · subst e; rw [h, if_pos rfl]; simp
    · rw [if_neg e]; cases dGet kvs j <;> simp [e]
theorem dPut_new (h : dGet kvs k = none) : dPut kvs k d = kvs ++ [(k, d)] := by unfold dPut; rw [h]; rfl
theorem dPut_length : (dPut kvs k d).length = if (dGet kvs k).isSome then kvs.length else kvs.length + 1 := by
  unfold dPut; split <;> simp
theorem mem_put {p : List Int × D} (h : p ∈ dPut kvs k d) : p ∈ kvs ∨ p = (k, d) := by
  unfold dPut at h
  split at h
  · obtain ⟨q, hq, e⟩ := List.mem_map.mp h
    by_cases z : q.1 = k
    · rw [if_pos z] at e; exact .inr (by rw [← e, z])
    · rw [if_neg z] at e; exact .inl (by rw [← e]; exact hq)
  · rcases List.mem_append.mp h with h | h
    · exact .inl h
    · exact .inr (by simpa using h)
theorem keys_put : (dPut kvs k d).map (·.1) = if (dGet kvs k).isSome then kvs.map (·.1) else kvs.map (·.1) ++ [k] := by
  unfold dPut
  split
  · rw [List.map_map]
    refine List.map_congr_left fun p _ => ?_
    simp only [Function.comp]
    split <;> rfl
  · simp
theorem dGet_none {k : List Int} : dGet kvs k = none ↔ k ∉ kvs.map (·.1) := by
  induction kvs with
  | nil => simp
  | cons p r ih =>
    rw [dGet_cons']
    by_cases h : p.1 = k
    · simp [h]
    · rw [if_neg h, ih]; simp [Ne.symm h]
theorem nodup_put (h : (kvs.map (·.1)).Nodup) : ((dPut kvs k d).map (·.1)).Nodup := by
  rw [keys_put]
  split
  · exact h
  · rename_i z
    have : dGet kvs k = none := by cases e : dGet kvs k <;> simp_all
    rw [List.nodup_append]
    refine ⟨h, by simp, fun x hx y hy => ?_⟩
    simp at hy
    subst hy
    intro e
    subst e
    exact dGet_none.mp this hx
/-- data that may be compared without a doubt -/
def okV (d : D) : Prop := nbD d = true ∧ depD d ≤ 60
theorem eqDp_nb {x y : D} (hx : okV x) (hy : okV y) : eqDp S x y = some (decide (x = y)) := by
  have e1 : toPy S x = some (pyD x) := toPy_pure (nb_pure hx.1)
  have e2 : toPy S y = some (pyD y) := toPy_pure (nb_pure hy.1)
  have e3 := eqv_nb hx.1 hy.1
  simp only [eqvD] at e3
  simp only [eqDp, e1, e2, shaped_pure (nb_pure hx.1) hx.2, shaped_pure (nb_pure hy.1) hy.2, Bool.and_self, if_true, e3]
theorem mem_of_dGet {k : List Int} {d : D} : ∀ {kvs : List (List Int × D)}, dGet kvs k = some d → (k, d) ∈ kvs
  | [], h => by cases h
  | p :: r, h => by
    rw [dGet_cons'] at h
    by_cases e : p.1 = k
    · rw [if_pos e] at h; cases h; subst e; exact List.mem_cons_self
    · rw [if_neg e] at h; exact List.mem_cons_of_mem _ (mem_of_dGet h)
theorem eqKvs_nb (hb : ∀ p ∈ b, okV p.2) : ∀ {a : List (List Int × D)}, (∀ p ∈ a, okV p.2) → ∃ r, eqKvs S b a = some r ∧ (r = true ↔ ∀ p ∈ a, dGet b p.1 = some p.2)
  | [], _ => ⟨true, rfl, by simp⟩
  | (k, d) :: a, ha => by
    obtain ⟨r, e, h⟩ := eqKvs_nb hb (a := a) fun p hp => ha p (List.mem_cons_of_mem _ hp)
    simp only [eqKvs]
    cases hg : dGet b k with
    | none => exact ⟨false, rfl, by simp [hg]⟩
    | some d2 =>
      have o2 := hb _ (mem_of_dGet hg)
      simp only
      rw [eqDp_nb (ha _ List.mem_cons_self) o2, e]
      refine ⟨_, rfl, ?_⟩
      simp only [Bool.and_eq_true, decide_eq_true_eq, h, List.mem_cons, forall_eq_or_imp, hg, Option.some.injEq]
      constructor
      · rintro ⟨rfl, z⟩; exact ⟨rfl, z⟩
      · rintro ⟨z1, z⟩; exact ⟨z1.symm, z⟩
/-- d == e, of dicts whose values are data -/
theorem eq_dcts (h1 : S[m]? = some (.dct a)) (h2 : S[n]? = some (.dct b)) (ha : ∀ p ∈ a, okV p.2) (hb : ∀ p ∈ b, okV p.2) : ∃ r, eqD S (.ref m) (.ref n) = some r ∧ (r = true ↔ a.length = b.length ∧ ∀ p ∈ a, dGet b p.1 = some p.2) := by
  have e0 : eqD0 S (.ref m) (.ref n) = none := by
    unfold eqD0
    simp only [toPy, toPyW, toPyN, h1, h2]
  unfold eqD eqDct
  rw [e0]
  simp only [h1, h2]
  by_cases hl : a.length = b.length
  · obtain ⟨r, e, h⟩ := eqKvs_nb (S := S) hb ha
    exact ⟨r, by rw [if_pos hl, e], by rw [h]; simp [hl]⟩
  · exact ⟨false, by rw [if_neg hl], by simp [hl]⟩
/-- two dicts that hold the same -/
theorem eq_same (h1 : S[m]? = some (.dct a)) (h2 : S[n]? = some (.dct b)) (ha : ∀ p ∈ a, okV p.2) (hb : ∀ p ∈ b, okV p.2) (na : (a.map (·.1)).Nodup) (nb : (b.map (·.1)).Nodup) (h : ∀ k, dGet a k = dGet b k) : eqD S (.ref m) (.ref n) = some true := by
  obtain ⟨r, e, hr⟩ := eq_dcts h1 h2 ha hb
  rw [e, hr.mpr ⟨?_, ?_⟩]
  · have mem : ∀ k, k ∈ a.map (·.1) ↔ k ∈ b.map (·.1) := fun k => by
      have z := h k
      have x1 := (dGet_none (kvs := a) (k := k))
      have x2 := (dGet_none (kvs := b) (k := k))
      rw [z, x2] at x1
      exact Decidable.not_iff_not.mp x1.symm
    have := (List.perm_ext_iff_of_nodup na nb).mpr mem
    simpa using this.length_eq
  · intro p hp
    rw [← h]
    clear h hr e h1 h2 ha hb nb
    induction a with
    | nil => cases hp
    | cons x a ih =>
      rw [List.map_cons, List.nodup_cons] at na
      rw [dGet_cons']
      rcases List.mem_cons.mp hp with rfl | hp
      · rw [if_pos rfl]
      · rw [if_neg (fun z => na.1 (by rw [z]; exact List.mem_map_of_mem hp))]
        exact ih na.2 hp
/-- a cell without references, made in a def and handed out of it -/
theorem fin_cell {x : Cell} {a c : List Cell} (h : x.refs = []) : fin S (.ref (S.length + a.length)) (S ++ a ++ x :: c) = .ok (.ref S.length) (S ++ [x]) := by
  have hg : (S ++ a ++ x :: c)[S.length + a.length]? = some x := by
    rw [List.getElem?_append_right (by simp)]; simp
  have hr : reach (S ++ a ++ x :: c) S.length 100000 [S.length + a.length] [] = [S.length + a.length] := by
    rw [show (100000 : Nat) = 99999 + 1 from rfl, reach_step hg (by omega) (by simp)]
    rw [h, List.append_nil, reach_nil, List.nil_append]
  have hlt : S.length + a.length < (S ++ a ++ x :: c).length := by simp
  have hS : (S ++ a ++ x :: c).take S.length = S := by simp
  have e1 : chg S (S ++ a ++ x :: c) = [] := by rw [List.append_assoc]; exact chg_app _ _
  rw [fin_gen (d := .ref (S.length + a.length)) (L := [S.length + a.length]) e1 (fun f => by rw [List.append_assoc, keepE_app]; simp) (by simp) hr ?_]
  · rw [hS]
    simp only [List.filterMap_cons, hg, Option.map_some, List.filterMap_nil, D.ren]
    rw [Cell.ren_id (fun n hn => by rw [h] at hn; cases hn)]
    simp [renOf]
    omega
  · unfold keepC
    simp only [List.flatMap_cons, List.flatMap_nil, hg, h, D.refs]
    simp
theorem fin_cat {x : Cell} {cs : List Cell} {i : Nat} (hc : cs[i]? = some x) (h : x.refs = []) : fin S (.ref (S.length + i)) (S ++ cs) = .ok (.ref S.length) (S ++ [x]) := by
  have hi := (List.getElem?_eq_some_iff.mp hc).1
  have e := fin_cell (S := S) (a := cs.take i) (c := cs.drop (i + 1)) h
  have e2 : cs.take i ++ x :: cs.drop (i + 1) = cs := by
    rw [show x = cs[i] from (List.getElem?_eq_some_iff.mp hc).2.symm, List.getElem_cons_drop, List.take_append_drop]
  rw [List.append_assoc, e2, List.length_take, Nat.min_eq_left (by omega)] at e
  exact e
theorem dct_refs (h : ∀ p ∈ kvs, okV p.2) : (Cell.dct kvs).refs = [] := by
  simp only [Cell.refs]
  induction kvs with
  | nil => rfl
  | cons p r ih =>
    simp only [List.map_cons, D.refsL, ih fun q hq => h q (List.mem_cons_of_mem _ hq), pure_refs (nb_pure (h p List.mem_cons_self).1), List.append_nil]
end
end Ng

set_option Elab.async false
set_option linter.all false
set_option maxRecDepth 100000
/-! Steps whose ends are found by the rewriting itself: by simp [..]; exact ⟨rfl, rfl⟩. -/
namespace Ng
open PySem
section
variable {P : Nat → List D → Store → R D} {ρ ρ1 : Env} {S S1 : Store} {a b : C} {r : O} {d : D}
theorem sx (h : run P a ρ S = .nx ρ1 S1) (h2 : run P b ρ1 S1 = r) : run P (.seq a b) ρ S = r := by rw [run_seq, h, seq_nx, h2]
theorem sxE (h : run P a ρ S = .nx ρ1 S1) (h2 : ∃ S', run P b ρ1 S1 = .ret d S') : ∃ S', run P (.seq a b) ρ S = .ret d S' := by rw [run_seq, h, seq_nx]; exact h2
theorem sxr (h : run P a ρ S = .ret d S1) : run P (.seq a b) ρ S = .ret d S1 := by rw [run_seq, h, seq_ret]
theorem sxrE (h : run P a ρ S = .ret d S1) : ∃ S', run P (.seq a b) ρ S = .ret d S' := by rw [run_seq, h, seq_ret]; exact ⟨_, rfl⟩
theorem sxF {tg it : E} {w : It} {S2 : Store} {ρ2 : Env} {c : C} (hi : itr P it ρ S = .ok w S1) (hf : forL (ckS w.lk) (fun x ρ S => (asgO tg x ρ S).seq (run P b)) w.ds ρ S1 = .nx ρ2 S2) (h2 : run P c ρ2 S2 = r) : run P (.seq (.for tg it b) c) ρ S = r := by
  rw [run_seq, run_for, hi, of_ok, hf, seq_nx, h2]
theorem sxFE {tg it : E} {w : It} {S2 : Store} {ρ2 : Env} {c : C} (hi : itr P it ρ S = .ok w S1) (hf : forL (ckS w.lk) (fun x ρ S => (asgO tg x ρ S).seq (run P b)) w.ds ρ S1 = .nx ρ2 S2) (h2 : ∃ S', run P c ρ2 S2 = .ret d S') : ∃ S', run P (.seq (.for tg it b) c) ρ S = .ret d S' := by
  rw [run_seq, run_for, hi, of_ok, hf, seq_nx]; exact h2
@[simp] theorem itr_bi (f a) : itr P (.bi f a) ρ S = (ev P (.bi f a) ρ S).bind itD := ng rfl
end
end Ng

set_option Elab.async false
set_option linter.all false
set_option maxRecDepth 100000
set_option maxHeartbeats 4000000
namespace Lw
open PySem L2 Ng

abbrev top (i : Nat) : Stmt := PySem.Challenge.pw_ramet_k23_layouts.main.body.getD i (.Pass ⟨0, 0, 0, 0⟩)
abbrev i_is_integer : Nat := 0
abbrev i_is_word : Nat := 1
abbrev i_number_of : Nat := 2
abbrev i_word_of : Nat := 3
abbrev i_words : Nat := 4
abbrev i_state_bits : Nat := 5
abbrev i_plane : Nat := 6
abbrev i_wire : Nat := 7
abbrev i_literal : Nat := 8
abbrev i_zero_literal : Nat := 9
abbrev i_sum : Nat := 10
abbrev i_put_field : Nat := 11
abbrev i_put_rows : Nat := 12
abbrev i_put_line : Nat := 13
abbrev i_put_state : Nat := 14
abbrev i_lay_out : Nat := 15
abbrev i_law_numbers : Nat := 16
abbrev i_law_take : Nat := 17
abbrev i_law_words : Nat := 18
abbrev i_law_word : Nat := 19
abbrev i_law_rows : Nat := 20
abbrev i_law_field : Nat := 21
abbrev i_law_terms : Nat := 22
abbrev i_law_line : Nat := 23
abbrev i_law_sum : Nat := 24
abbrev i_law_literal : Nat := 25
abbrev i_law_layout : Nat := 26
abbrev i_law_same : Nat := 27
abbrev i_law_drawn : Nat := 28
abbrev i_law : Nat := 29
abbrev i_Machine_init : Nat := 30
abbrev i_Machine_row : Nat := 31
abbrev i_Machine_new : Nat := 32
abbrev i_Layout_init : Nat := 33
abbrev i_Layout_new : Nat := 34
/-- _is_integer (0); slots: 0 value 1 least 2 most -/
def c_is_integer : C :=
    (.seq (.ret (.and (.isi (.var 0) [.int] false) (.and (.not (.isi (.var 0) [.bool] false)) (.chain .le .le (.var 1) (.var 0) (.var 2)))))
    .skip)
def t_is_integer : FText := ⟨"_is_integer", "_is_integer", .fn "_is_integer", top 10, ["value", "least", "most"], ["value", "least", "most"], { np := 3, nl := 3, body := c_is_integer }⟩
/-- is_word (1); slots: 0 value 1 bits 2 bit -/
def c_is_word : C :=
    (.seq (.ite (.or (.not (.isi (.var 0) [.tuple] false)) (.cmp .ne (.bi .len (.cons (.var 0) .nil)) (.var 1))) (.seq (.ret (.bl false))
    .skip) .skip)
    (.seq (.ret (.bi .all (.cons (.lc [2] (.var 2) (.var 0) (.bl true) (.call i_is_integer (.cons (.var 2) (.cons (.int 0) (.cons (.int 1) .nil))))) .nil)))
    .skip))
def t_is_word : FText := ⟨"is_word", "is_word", .fn "is_word", top 11, ["value", "bits", "bit"], ["value", "bits"], { np := 2, nl := 3, body := c_is_word }⟩
/-- number_of (2); slots: 0 word 1 number 2 bit -/
def b_number_of_1 : C :=
    (.seq (.asg (.var 1) (.bin .add (.bin .mul (.int 2) (.var 1)) (.var 2)))
    .skip)
def c_number_of : C :=
    (.seq (.asg (.var 1) (.int 0))
    (.seq (.for (.var 2) (.var 0) b_number_of_1)
    (.seq (.ret (.var 1))
    .skip)))
def t_number_of : FText := ⟨"number_of", "number_of", .fn "number_of", top 12, ["word", "number", "bit"], ["word"], { np := 1, nl := 3, body := c_number_of }⟩
/-- word_of (3); slots: 0 number 1 bits 2 word 3 _ -/
def b_word_of_1 : C :=
    (.seq (.asg (.var 2) (.bin .add (.tup (.cons (.bin .mod (.var 0) (.int 2)) .nil)) (.var 2)))
    (.seq (.asg (.var 0) (.bin .fdiv (.var 0) (.int 2)))
    .skip))
def c_word_of : C :=
    (.seq (.asg (.var 2) (.tup .nil))
    (.seq (.for (.var 3) (.rng (.cons (.var 1) .nil)) b_word_of_1)
    (.seq (.ret (.var 2))
    .skip)))
def t_word_of : FText := ⟨"word_of", "word_of", .fn "word_of", top 13, ["number", "bits", "word", "_"], ["number", "bits"], { np := 2, nl := 4, body := c_word_of }⟩
/-- words (4); slots: 0 bits 1 found 2 _ 3 word 4 bit -/
def b_words_1 : C :=
    (.seq (.asg (.var 1) (.lc2 [3, 4] [4] (.var 3) (.var 1) (.var 4) (.tup (.cons (.int 0) (.cons (.int 1) .nil))) (.bin .add (.var 3) (.tup (.cons (.var 4) .nil)))))
    .skip)
def c_words : C :=
    (.seq (.asg (.var 1) (.lst (.cons (.tup .nil) .nil)))
    (.seq (.for (.var 2) (.rng (.cons (.var 0) .nil)) b_words_1)
    (.seq (.ret (.var 1))
    .skip)))
def t_words : FText := ⟨"words", "words", .fn "words", top 15, ["bits", "found", "_", "word", "bit"], ["bits"], { np := 1, nl := 5, body := c_words }⟩
/-- state_bits (5); slots: 0 machine -/
def c_state_bits : C :=
    (.seq (.ret (.bln (.bin .sub (.fld "Machine" "states" (.var 0)) (.int 1))))
    .skip)
def t_state_bits : FText := ⟨"state_bits", "state_bits", .fn "state_bits", top 17, ["machine"], ["machine"], { np := 1, nl := 1, body := c_state_bits }⟩
/-- plane (6); slots: 0 machine 1 bits 2 terms 3 state 4 word 5 after 6 output 7 sums -/
def b_plane_1 : C :=
    (.seq (.asg (.tup (.cons (.var 5) (.cons (.var 6) .nil))) (.mth i_Machine_row "Machine" "row" (.var 0) (.cons (.var 3) (.cons (.var 4) .nil))))
    (.seq (.asg (.var 7) (.bin .add (.call i_word_of (.cons (.var 5) (.cons (.var 1) .nil))) (.var 6)))
    (.seq (.ite (.cmp .in_ (.int 1) (.var 7)) (.seq (.ex (.me .append (.var 2) (.cons (.tup (.cons (.bin .add (.var 4) (.call i_word_of (.cons (.var 3) (.cons (.var 1) .nil)))) (.cons (.var 7) .nil))) .nil)))
    .skip) .skip)
    .skip)))
def b_plane_2 : C :=
    (.seq (.for (.var 4) (.call i_words (.cons (.fld "Machine" "inputs" (.var 0)) .nil)) b_plane_1)
    .skip)
def c_plane : C :=
    (.seq (.asg (.var 1) (.call i_state_bits (.cons (.var 0) .nil)))
    (.seq (.asg (.var 2) (.lst .nil))
    (.seq (.for (.var 3) (.rng (.cons (.fld "Machine" "states" (.var 0)) .nil)) b_plane_2)
    (.seq (.ret (.var 2))
    .skip))))
def t_plane : FText := ⟨"plane", "plane", .fn "plane", top 18, ["machine", "bits", "terms", "state", "word", "after", "output", "sums"], ["machine"], { np := 1, nl := 8, body := c_plane }⟩
/-- wire (7); slots: 0 way -/
def c_wire : C :=
    (.seq (.ret (.tup (.cons (.str "wire") (.cons (.var 0) (.cons (.int 0) .nil)))))
    .skip)
def t_wire : FText := ⟨"wire", "wire", .fn "wire", top 30, ["way"], ["way"], { np := 1, nl := 1, body := c_wire }⟩
/-- _literal (8); slots: 0 at 1 bit 2 second -/
def c_literal : C :=
    (.seq (.asg (.var 2) (.ite (.cmp .eq (.var 1) (.int 1)) (.call i_wire (.cons (.int 3) .nil)) (.glb "NOT_SOUTH" (.tup [(.str "not"), (.int 3), (.int 0)]))))
    (.seq (.ite (.cmp .eq (.var 0) (.int 0)) (.seq (.ret (.tup (.cons (.glb "FORK_SOUTH" (.tup [(.str "fork"), (.int 3), (.int 0), (.int 0), (.int 0)])) (.cons (.var 2) (.cons (.call i_wire (.cons (.int 3) .nil)) (.cons (.call i_wire (.cons (.int 0) .nil)) .nil))))))
    .skip) .skip)
    (.seq (.ret (.tup (.cons (.glb "FORK_SOUTH" (.tup [(.str "fork"), (.int 3), (.int 0), (.int 0), (.int 0)])) (.cons (.var 2) (.cons (.glb "CROSS" (.tup [(.str "cross"), (.int 0), (.int 1), (.int 0), (.int 0)])) (.cons (.glb "AND" (.tup [(.str "and"), (.int 0), (.int 0), (.int 0), (.int 0)])) .nil))))))
    .skip)))
def t_literal : FText := ⟨"_literal", "_literal", .fn "_literal", top 32, ["at", "bit", "second"], ["at", "bit"], { np := 2, nl := 3, body := c_literal }⟩
/-- _zero_literal (9); slots: 0 at -/
def c_zero_literal : C :=
    (.seq (.ite (.cmp .eq (.var 0) (.int 0)) (.seq (.ret (.tup (.cons (.glb "FORK_SOUTH" (.tup [(.str "fork"), (.int 3), (.int 0), (.int 0), (.int 0)])) (.cons (.glb "NOT_SOUTH" (.tup [(.str "not"), (.int 3), (.int 0)])) (.cons (.call i_wire (.cons (.int 0) .nil)) (.cons (.glb "AND" (.tup [(.str "and"), (.int 0), (.int 0), (.int 0), (.int 0)])) .nil))))))
    .skip) .skip)
    (.seq (.ret (.tup (.cons (.call i_wire (.cons (.int 0) .nil)) (.cons (.call i_wire (.cons (.int 3) .nil)) (.cons (.call i_wire (.cons (.int 0) .nil)) (.cons (.glb "AND" (.tup [(.str "and"), (.int 0), (.int 0), (.int 0), (.int 0)])) .nil))))))
    .skip))
def t_zero_literal : FText := ⟨"_zero_literal", "_zero_literal", .fn "_zero_literal", top 33, ["at"], ["at"], { np := 1, nl := 1, body := c_zero_literal }⟩
/-- _sum (10); slots: 0 sets 1 goes_on 2 begun 3 top 4 below -/
def c_sum : C :=
    (.seq (.ite (.var 0) (.seq (.asg (.var 3) (.ite (.var 2) (.glb "OR" (.tup [(.str "or"), (.int 3), (.int 1), (.int 0), (.int 0)])) (.call i_wire (.cons (.int 3) .nil))))
    (.seq (.ite (.var 1) (.seq (.ret (.tup (.cons (.call i_wire (.cons (.int 0) .nil)) (.cons (.var 3) (.cons (.glb "FORK_EAST" (.tup [(.str "fork"), (.int 0), (.int 0), (.int 0), (.int 0)])) (.cons (.glb "CROSS" (.tup [(.str "cross"), (.int 0), (.int 1), (.int 0), (.int 0)])) .nil))))))
    .skip) .skip)
    (.seq (.ret (.tup (.cons (.call i_wire (.cons (.int 0) .nil)) (.cons (.var 3) (.cons (.call i_wire (.cons (.int 1) .nil)) (.cons (.call i_wire (.cons (.int 3) .nil)) .nil))))))
    .skip))) .skip)
    (.seq (.asg (.var 4) (.ite (.var 2) (.call i_wire (.cons (.int 3) .nil)) .non))
    (.seq (.ite (.var 1) (.seq (.ret (.tup (.cons .non (.cons (.var 4) (.cons (.call i_wire (.cons (.int 0) .nil)) (.cons (.ite (.var 2) (.glb "CROSS" (.tup [(.str "cross"), (.int 0), (.int 1), (.int 0), (.int 0)])) (.call i_wire (.cons (.int 0) .nil))) .nil))))))
    .skip) .skip)
    (.seq (.ret (.tup (.cons .non (.cons (.var 4) (.cons .non (.cons (.var 4) .nil))))))
    .skip))))
def t_sum : FText := ⟨"_sum", "_sum", .fn "_sum", top 34, ["sets", "goes_on", "begun", "top", "below"], ["sets", "goes_on", "begun"], { np := 3, nl := 5, body := c_sum }⟩
/-- _put_field (11); slots: 0 pattern 1 x 2 y 3 field 4 at 5 state -/
def b_put_field_1 : C :=
    (.seq (.ite (.cmp .isnot (.var 5) .non) (.seq (.ist (.var 0) (.tup (.cons (.bin .add (.var 1) (.bin .mod (.var 4) (.int 2))) (.cons (.bin .add (.var 2) (.bin .fdiv (.var 4) (.int 2))) .nil))) (.var 5))
    .skip) .skip)
    .skip)
def c_put_field : C :=
    (.seq (.for (.tup (.cons (.var 4) (.cons (.var 5) .nil))) (.enm (.cons (.var 3) .nil)) b_put_field_1)
    .skip)
def t_put_field : FText := ⟨"_put_field", "_put_field", .fn "_put_field", top 35, ["pattern", "x", "y", "field", "at", "state"], ["pattern", "x", "y", "field"], { np := 4, nl := 6, body := c_put_field }⟩
/-- _put_rows (12); slots: 0 pattern 1 terms 2 literals 3 sums 4 rows 5 term 6 begun 7 r 8 row 9 at 10 field 11 goes_on -/
def b_put_rows_1 : C :=
    (.seq (.asg (.var 11) (.cmp .in_ (.int 1) (.slc (.ix (.var 8) (.int 1)) (.bin .add (.var 9) (.int 1)) .nil)))
    (.seq (.asg (.var 10) (.call i_sum (.cons (.cmp .eq (.ix (.ix (.var 8) (.int 1)) (.var 9)) (.int 1)) (.cons (.var 11) (.cons (.ix (.var 6) (.var 9)) .nil)))))
    (.seq (.ex (.call i_put_field (.cons (.var 0) (.cons (.bin .add (.bin .mul (.int 2) (.var 2)) (.bin .mul (.int 2) (.var 9))) (.cons (.bin .mul (.int 2) (.var 7)) (.cons (.var 10) .nil))))))
    (.seq (.ist (.var 6) (.var 9) (.or (.ix (.var 6) (.var 9)) (.cmp .eq (.ix (.ix (.var 8) (.int 1)) (.var 9)) (.int 1))))
    .skip))))
def b_put_rows_2 : C :=
    (.seq (.asg (.var 10) (.ite (.cmp .is (.ix (.var 8) (.int 0)) .non) (.call i_zero_literal (.cons (.var 9) .nil)) (.call i_literal (.cons (.var 9) (.cons (.ix (.ix (.var 8) (.int 0)) (.var 9)) .nil)))))
    (.seq (.ex (.call i_put_field (.cons (.var 0) (.cons (.bin .mul (.int 2) (.var 9)) (.cons (.bin .mul (.int 2) (.var 7)) (.cons (.var 10) .nil))))))
    .skip))
def b_put_rows_3 : C :=
    (.seq (.for (.var 9) (.rng (.cons (.var 2) .nil)) b_put_rows_2)
    (.seq (.for (.var 9) (.rng (.cons (.var 3) .nil)) b_put_rows_1)
    .skip))
def c_put_rows : C :=
    (.seq (.asg (.var 4) (.bin .add (.lc [5] (.var 5) (.var 1) (.bl true) (.tup (.cons (.ix (.var 5) (.int 0)) (.cons (.ix (.var 5) (.int 1)) .nil)))) (.lst (.cons (.tup (.cons .non (.cons (.bin .mul (.tup (.cons (.int 1) .nil)) (.var 3)) .nil))) .nil))))
    (.seq (.asg (.var 6) (.bin .mul (.lst (.cons (.bl false) .nil)) (.var 3)))
    (.seq (.for (.tup (.cons (.var 7) (.cons (.var 8) .nil))) (.enm (.cons (.var 4) .nil)) b_put_rows_3)
    (.seq (.ret (.bi .len (.cons (.var 4) .nil)))
    .skip))))
def t_put_rows : FText := ⟨"_put_rows", "_put_rows", .fn "_put_rows", top 36, ["pattern", "terms", "literals", "sums", "rows", "term", "begun", "r", "row", "at", "field", "goes_on"], ["pattern", "terms", "literals", "sums"], { np := 4, nl := 12, body := c_put_rows }⟩
/-- _put_line (13); slots: 0 pattern 1 first 2 last 3 way 4 steps 5 x 6 y -/
def b_put_line_1 : C :=
    (.seq (.ist (.var 0) (.tup (.cons (.var 5) (.cons (.var 6) .nil))) (.call i_wire (.cons (.var 3) .nil)))
    (.seq (.ite (.cmp .eq (.tup (.cons (.var 5) (.cons (.var 6) .nil))) (.var 2)) (.seq .retN
    .skip) .skip)
    (.seq (.asg (.var 5) (.bin .add (.var 5) (.ix (.var 4) (.int 0))))
    (.seq (.asg (.var 6) (.bin .add (.var 6) (.ix (.var 4) (.int 1))))
    .skip))))
def c_put_line : C :=
    (.seq (.asg (.var 4) (.ix (.tup (.cons (.tup (.cons (.int 1) (.cons (.int 0) .nil))) (.cons (.tup (.cons (.int 0) (.cons (.neg (.int 1)) .nil))) (.cons (.tup (.cons (.neg (.int 1)) (.cons (.int 0) .nil))) (.cons (.tup (.cons (.int 0) (.cons (.int 1) .nil))) .nil))))) (.var 3)))
    (.seq (.asg (.tup (.cons (.var 5) (.cons (.var 6) .nil))) (.var 1))
    (.seq (.whl 1000000 (.bl true) b_put_line_1)
    .skip)))
def t_put_line : FText := ⟨"_put_line", "_put_line", .fn "_put_line", top 37, ["pattern", "first", "last", "way", "steps", "x", "y"], ["pattern", "first", "last", "way"], { np := 4, nl := 7, body := c_put_line }⟩
/-- _put_state (14); slots: 0 pattern 1 s 2 inputs 3 column 4 bottom 5 target -/
def c_put_state : C :=
    (.seq (.ite (.cmp .gt (.var 1) (.int 0)) (.seq (.ex (.call i_put_line (.cons (.var 0) (.cons (.tup (.cons (.var 3) (.cons (.var 4) .nil))) (.cons (.tup (.cons (.var 3) (.cons (.bin .sub (.bin .add (.var 4) (.var 1)) (.int 1)) .nil))) (.cons (.glb "SOUTH" (.int 3)) .nil))))))
    .skip) .skip)
    (.seq (.ex (.call i_put_line (.cons (.var 0) (.cons (.tup (.cons (.var 3) (.cons (.bin .add (.var 4) (.var 1)) .nil))) (.cons (.tup (.cons (.neg (.var 1)) (.cons (.bin .add (.var 4) (.var 1)) .nil))) (.cons (.glb "WEST" (.int 2)) .nil))))))
    (.seq (.ex (.call i_put_line (.cons (.var 0) (.cons (.tup (.cons (.bin .sub (.neg (.int 1)) (.var 1)) (.cons (.bin .add (.var 4) (.var 1)) .nil))) (.cons (.tup (.cons (.bin .sub (.neg (.int 1)) (.var 1)) (.cons (.bin .sub (.neg (.int 1)) (.var 1)) .nil))) (.cons (.glb "NORTH" (.int 1)) .nil))))))
    (.seq (.asg (.var 5) (.bin .mul (.int 2) (.bin .add (.var 2) (.var 1))))
    (.seq (.ex (.call i_put_line (.cons (.var 0) (.cons (.tup (.cons (.bin .sub (.neg (.int 1)) (.var 1)) (.cons (.bin .sub (.neg (.int 2)) (.var 1)) .nil))) (.cons (.tup (.cons (.bin .sub (.var 5) (.int 1)) (.cons (.bin .sub (.neg (.int 2)) (.var 1)) .nil))) (.cons (.glb "EAST" (.int 0)) .nil))))))
    (.seq (.ex (.call i_put_line (.cons (.var 0) (.cons (.tup (.cons (.var 5) (.cons (.bin .sub (.neg (.int 2)) (.var 1)) .nil))) (.cons (.tup (.cons (.var 5) (.cons (.neg (.int 2)) .nil))) (.cons (.glb "SOUTH" (.int 3)) .nil))))))
    (.seq (.ist (.var 0) (.tup (.cons (.var 5) (.cons (.neg (.int 1)) .nil))) (.tup (.cons (.str "wire") (.cons (.int 3) (.cons (.glb "ZERO" (.int 8)) .nil)))))
    .skip)))))))
def t_put_state : FText := ⟨"_put_state", "_put_state", .fn "_put_state", top 38, ["pattern", "s", "inputs", "column", "bottom", "target"], ["pattern", "s", "inputs", "column", "bottom"], { np := 5, nl := 6, body := c_put_state }⟩
/-- lay_out (15); slots: 0 machine 1 terms 2 bits 3 literals 4 sums 5 pattern 6 bottom 7 s 8 at 9 outs 10 place 11 ins -/
def b_lay_out_1 : C :=
    (.seq (.ist (.var 5) (.var 10) (.call i_wire (.cons (.int 3) .nil)))
    .skip)
def b_lay_out_2 : C :=
    (.seq (.ist (.var 5) (.tup (.cons (.bin .mul (.int 2) (.var 8)) (.cons (.bin .sub (.neg (.int 2)) (.var 7)) .nil))) (.glb "CROSS" (.tup [(.str "cross"), (.int 0), (.int 1), (.int 0), (.int 0)])))
    .skip)
def b_lay_out_3 : C :=
    (.seq (.ex (.call i_put_line (.cons (.var 5) (.cons (.tup (.cons (.bin .mul (.int 2) (.var 8)) (.cons (.bin .sub (.neg (.int 2)) (.var 2)) .nil))) (.cons (.tup (.cons (.bin .mul (.int 2) (.var 8)) (.cons (.neg (.int 1)) .nil))) (.cons (.glb "SOUTH" (.int 3)) .nil))))))
    (.seq (.for (.var 7) (.rng (.cons (.var 2) .nil)) b_lay_out_2)
    .skip))
def b_lay_out_4 : C :=
    (.seq (.ex (.call i_put_state (.cons (.var 5) (.cons (.var 7) (.cons (.fld "Machine" "inputs" (.var 0)) (.cons (.bin .add (.bin .add (.bin .mul (.int 2) (.var 3)) (.bin .mul (.int 2) (.var 7))) (.int 1)) (.cons (.var 6) .nil)))))))
    .skip)
def c_lay_out : C :=
    (.seq (.asg (.var 1) (.call i_plane (.cons (.var 0) .nil)))
    (.seq (.asg (.var 2) (.call i_state_bits (.cons (.var 0) .nil)))
    (.seq (.ite (.cmp .eq (.bin .add (.var 2) (.fld "Machine" "inputs" (.var 0))) (.int 0)) (.seq (.asg (.var 2) (.int 1))
    (.seq (.asg (.var 1) (.lc [3, 4] (.tup (.cons (.var 3) (.cons (.var 4) .nil))) (.var 1) (.bl true) (.tup (.cons (.tup (.cons (.int 0) .nil)) (.cons (.bin .add (.tup (.cons (.int 0) .nil)) (.var 4)) .nil)))))
    .skip)) .skip)
    (.seq (.asg (.var 3) (.bin .add (.fld "Machine" "inputs" (.var 0)) (.var 2)))
    (.seq (.asg (.var 4) (.bin .add (.var 2) (.fld "Machine" "outputs" (.var 0))))
    (.seq (.asg (.var 5) .dd0)
    (.seq (.asg (.var 6) (.bin .mul (.int 2) (.call i_put_rows (.cons (.var 5) (.cons (.var 1) (.cons (.var 3) (.cons (.var 4) .nil)))))))
    (.seq (.for (.var 7) (.rng (.cons (.var 2) .nil)) b_lay_out_4)
    (.seq (.for (.var 8) (.rng (.cons (.fld "Machine" "inputs" (.var 0)) .nil)) b_lay_out_3)
    (.seq (.asg (.var 9) (.bi .tuple (.cons (.lc [8] (.var 8) (.rng (.cons (.fld "Machine" "outputs" (.var 0)) .nil)) (.bl true) (.tup (.cons (.bin .add (.bin .add (.bin .mul (.int 2) (.var 3)) (.bin .mul (.int 2) (.bin .add (.var 2) (.var 8)))) (.int 1)) (.cons (.var 6) .nil)))) .nil)))
    (.seq (.for (.var 10) (.var 9) b_lay_out_1)
    (.seq (.asg (.var 11) (.bi .tuple (.cons (.lc [8] (.var 8) (.rng (.cons (.fld "Machine" "inputs" (.var 0)) .nil)) (.bl true) (.tup (.cons (.bin .mul (.int 2) (.var 8)) (.cons (.bin .sub (.neg (.int 2)) (.var 2)) .nil)))) .nil)))
    (.seq (.ret (.call i_Layout_new (.cons (.var 5) (.cons (.var 11) (.cons (.var 9) .nil)))))
    .skip)))))))))))))
def t_lay_out : FText := ⟨"lay_out", "lay_out", .fn "lay_out", top 39, ["machine", "terms", "bits", "literals", "sums", "pattern", "bottom", "s", "at", "outs", "place", "ins"], ["machine"], { np := 1, nl := 12, body := c_lay_out }⟩
/-- _law_numbers (16); slots: 0 _law_script 1 _law_many 2 _law_numbers_here 3 _law_k 4 _law_cell 5 _law_j 6 _law_mixed -/
def b_law_numbers_1 : C :=
    (.seq (.ite (.and (.cmp .gt (.var 4) (.int 0)) (.cmp .lt (.bi .len (.cons (.var 2) .nil)) (.var 1))) (.seq (.ex (.me .append (.var 2) (.cons (.bin .mod (.var 4) (.int 1000)) .nil)))
    (.seq (.asg (.var 4) (.bin .fdiv (.var 4) (.int 1000)))
    .skip)) .skip)
    .skip)
def b_law_numbers_2 : C :=
    (.seq (.asg (.var 6) (.bin .mod (.bi .int (.cons (.bin .add (.bin .add (.bin .add (.bin .mul (.var 4) (.int 48271)) (.bin .mul (.var 3) (.int 69621))) (.bin .mul (.var 5) (.int 16807))) (.int 11)) .nil)) (.int 2147483647)))
    (.seq (.asg (.var 6) (.bin .mod (.bi .int (.cons (.bin .add (.bin .mul (.var 6) (.var 6)) (.var 5)) .nil)) (.int 2147483629)))
    (.seq (.ex (.me .append (.var 2) (.cons (.bin .mod (.bin .fdiv (.var 6) (.int 7)) (.int 1000)) .nil)))
    .skip)))
def b_law_numbers_3 : C :=
    (.seq (.asg (.var 4) (.bi .abs (.cons (.ix (.var 0) (.var 3)) .nil)))
    (.seq (.ite (.cmp .ge (.var 4) (.bin .pow (.int 10) (.int 18))) (.seq (.for (.var 5) (.rng (.cons (.int 60) .nil)) b_law_numbers_1)
    .skip) (.seq (.for (.var 5) (.rng (.cons (.int 5) .nil)) b_law_numbers_2)
    .skip))
    .skip))
def c_law_numbers : C :=
    (.seq (.asg (.var 2) (.lst .nil))
    (.seq (.for (.var 3) (.rng (.cons (.bi .len (.cons (.var 0) .nil)) .nil)) b_law_numbers_3)
    (.seq (.ret (.slc (.var 2) .nil (.var 1)))
    .skip)))
def t_law_numbers : FText := ⟨"_law_numbers", "_law_numbers", .fn "_law_numbers", top 41, ["_law_script", "_law_many", "_law_numbers_here", "_law_k", "_law_cell", "_law_j", "_law_mixed"], ["_law_script", "_law_many"], { np := 2, nl := 7, body := c_law_numbers }⟩
/-- _law_take (17); slots: 0 _law_numbers_here 1 _law_place -/
def c_law_take : C :=
    (.seq (.ite (.cmp .lt (.ix (.var 1) (.int 0)) (.bi .len (.cons (.var 0) .nil))) (.seq (.ist (.var 1) (.int 0) (.bin .add (.ix (.var 1) (.int 0)) (.int 1)))
    (.seq (.ret (.ix (.var 0) (.bin .sub (.ix (.var 1) (.int 0)) (.int 1))))
    .skip)) .skip)
    (.seq (.ret (.int 0))
    .skip))
def t_law_take : FText := ⟨"_law_take", "_law_take", .fn "_law_take", top 42, ["_law_numbers_here", "_law_place"], ["_law_numbers_here", "_law_place"], { np := 2, nl := 2, body := c_law_take }⟩
/-- _law_words (18); slots: 0 _law_bits 1 _law_found 2 _law_k 3 _law_longer 4 _law_word_here -/
def b_law_words_1 : C :=
    (.seq (.ex (.me .append (.var 3) (.cons (.bin .add (.var 4) (.tup (.cons (.int 0) .nil))) .nil)))
    (.seq (.ex (.me .append (.var 3) (.cons (.bin .add (.var 4) (.tup (.cons (.int 1) .nil))) .nil)))
    .skip))
def b_law_words_2 : C :=
    (.seq (.asg (.var 3) (.lst .nil))
    (.seq (.for (.var 4) (.var 1) b_law_words_1)
    (.seq (.asg (.var 1) (.var 3))
    .skip)))
def c_law_words : C :=
    (.seq (.asg (.var 1) (.lst (.cons (.tup .nil) .nil)))
    (.seq (.for (.var 2) (.rng (.cons (.var 0) .nil)) b_law_words_2)
    (.seq (.ret (.var 1))
    .skip)))
def t_law_words : FText := ⟨"_law_words", "_law_words", .fn "_law_words", top 43, ["_law_bits", "_law_found", "_law_k", "_law_longer", "_law_word_here"], ["_law_bits"], { np := 1, nl := 5, body := c_law_words }⟩
/-- _law_word (19); slots: 0 _law_value_here 1 _law_bits 2 _law_word_here 3 _law_k -/
def b_law_word_1 : C :=
    (.seq (.asg (.var 2) (.bin .add (.tup (.cons (.bin .mod (.var 0) (.int 2)) .nil)) (.var 2)))
    (.seq (.asg (.var 0) (.bin .fdiv (.var 0) (.int 2)))
    .skip))
def c_law_word : C :=
    (.seq (.asg (.var 2) (.tup .nil))
    (.seq (.for (.var 3) (.rng (.cons (.var 1) .nil)) b_law_word_1)
    (.seq (.ret (.var 2))
    .skip)))
def t_law_word : FText := ⟨"_law_word", "_law_word", .fn "_law_word", top 45, ["_law_value_here", "_law_bits", "_law_word_here", "_law_k"], ["_law_value_here", "_law_bits"], { np := 2, nl := 4, body := c_law_word }⟩
/-- _law_rows (20); slots: 0 _law_numbers_here 1 _law_place 2 _law_states 3 _law_inputs_here 4 _law_outputs 5 _law_rows_here 6 _law_style 7 _law_k 8 _law_number 9 _law_after 10 _law_output -/
def b_law_rows_1 : C :=
    (.seq (.ite (.cmp .lt (.var 7) (.bin .mul (.var 2) (.bi .len (.cons (.call i_law_words (.cons (.var 3) .nil)) .nil)))) (.seq (.asg (.var 8) (.bin .add (.call i_law_take (.cons (.var 0) (.cons (.var 1) .nil))) (.bin .mul (.bin .mul (.int 7) (.var 7)) (.bin .mod (.var 6) (.int 2)))))
    (.seq (.asg (.var 9) (.bin .mod (.var 8) (.var 2)))
    (.seq (.asg (.var 10) (.call i_law_word (.cons (.bin .mod (.bin .fdiv (.var 8) (.int 8)) (.bi .len (.cons (.call i_law_words (.cons (.var 4) .nil)) .nil))) (.cons (.var 4) .nil))))
    (.seq (.ite (.and (.cmp .eq (.var 6) (.int 2)) (.cmp .eq (.bin .mod (.bin .fdiv (.var 8) (.int 64)) (.int 2)) (.int 0))) (.seq (.asg (.var 10) (.bin .mul (.tup (.cons (.int 0) .nil)) (.var 4)))
    (.seq (.asg (.var 9) (.int 0))
    .skip)) .skip)
    (.seq (.ex (.me .append (.var 5) (.cons (.tup (.cons (.var 9) (.cons (.var 10) .nil))) .nil)))
    .skip))))) .skip)
    .skip)
def c_law_rows : C :=
    (.seq (.asg (.var 5) (.lst .nil))
    (.seq (.asg (.var 6) (.bin .mod (.call i_law_take (.cons (.var 0) (.cons (.var 1) .nil))) (.int 4)))
    (.seq (.for (.var 7) (.rng (.cons (.bin .mul (.var 2) (.bin .pow (.int 2) (.int 3))) .nil)) b_law_rows_1)
    (.seq (.ret (.var 5))
    .skip))))
def t_law_rows : FText := ⟨"_law_rows", "_law_rows", .fn "_law_rows", top 46, ["_law_numbers_here", "_law_place", "_law_states", "_law_inputs_here", "_law_outputs", "_law_rows_here", "_law_style", "_law_k", "_law_number", "_law_after", "_law_output"], ["_law_numbers_here", "_law_place", "_law_states", "_law_inputs_here", "_law_outputs"], { np := 5, nl := 11, body := c_law_rows }⟩
/-- _law_field (21); slots: 0 _law_pattern 1 _law_x 2 _law_y 3 _law_field_here 4 _law_k -/
def b_law_field_1 : C :=
    (.seq (.ite (.cmp .ne (.ix (.var 3) (.var 4)) (.tup .nil)) (.seq (.ist (.var 0) (.tup (.cons (.bin .add (.var 1) (.bin .mod (.var 4) (.int 2))) (.cons (.bin .add (.var 2) (.bin .fdiv (.var 4) (.int 2))) .nil))) (.ix (.var 3) (.var 4)))
    .skip) .skip)
    .skip)
def c_law_field : C :=
    (.seq (.for (.var 4) (.rng (.cons (.int 4) .nil)) b_law_field_1)
    .skip)
def t_law_field : FText := ⟨"_law_field", "_law_field", .fn "_law_field", top 50, ["_law_pattern", "_law_x", "_law_y", "_law_field_here", "_law_k"], ["_law_pattern", "_law_x", "_law_y", "_law_field_here"], { np := 4, nl := 5, body := c_law_field }⟩
/-- _law_terms (22); slots: 0 _law_rows_here 1 _law_inputs_here 2 _law_bits 3 _law_alphabet 4 _law_terms_here 5 _law_k 6 _law_sums -/
def b_law_terms_1 : C :=
    (.seq (.asg (.var 6) (.bin .add (.call i_law_word (.cons (.ix (.ix (.var 0) (.var 5)) (.int 0)) (.cons (.var 2) .nil))) (.ix (.ix (.var 0) (.var 5)) (.int 1))))
    (.seq (.ite (.cmp .in_ (.int 1) (.var 6)) (.seq (.ex (.me .append (.var 4) (.cons (.tup (.cons (.bin .add (.ix (.var 3) (.bin .mod (.var 5) (.bi .len (.cons (.var 3) .nil)))) (.call i_law_word (.cons (.bin .fdiv (.var 5) (.bi .len (.cons (.var 3) .nil))) (.cons (.var 2) .nil)))) (.cons (.var 6) .nil))) .nil)))
    .skip) .skip)
    .skip))
def c_law_terms : C :=
    (.seq (.asg (.var 3) (.call i_law_words (.cons (.var 1) .nil)))
    (.seq (.asg (.var 4) (.lst .nil))
    (.seq (.for (.var 5) (.rng (.cons (.bi .len (.cons (.var 0) .nil)) .nil)) b_law_terms_1)
    (.seq (.ret (.var 4))
    .skip))))
def t_law_terms : FText := ⟨"_law_terms", "_law_terms", .fn "_law_terms", top 51, ["_law_rows_here", "_law_inputs_here", "_law_bits", "_law_alphabet", "_law_terms_here", "_law_k", "_law_sums"], ["_law_rows_here", "_law_inputs_here", "_law_bits"], { np := 3, nl := 7, body := c_law_terms }⟩
/-- _law_line (23); slots: 0 _law_pattern 1 _law_first 2 _law_last 3 _law_way 4 _law_x 5 _law_y 6 _law_k -/
def b_law_line_1 : C :=
    (.seq (.ist (.var 0) (.tup (.cons (.var 4) (.cons (.var 5) .nil))) (.tup (.cons (.str "wire") (.cons (.var 3) (.cons (.int 0) .nil)))))
    (.seq (.asg (.var 4) (.bin .add (.var 4) (.ix (.tup (.cons (.int 1) (.cons (.int 0) (.cons (.neg (.int 1)) (.cons (.int 0) .nil))))) (.var 3))))
    (.seq (.asg (.var 5) (.bin .add (.var 5) (.ix (.tup (.cons (.int 0) (.cons (.neg (.int 1)) (.cons (.int 0) (.cons (.int 1) .nil))))) (.var 3))))
    .skip)))
def c_law_line : C :=
    (.seq (.asg (.var 4) (.ix (.var 1) (.int 0)))
    (.seq (.asg (.var 5) (.ix (.var 1) (.int 1)))
    (.seq (.for (.var 6) (.rng (.cons (.bin .add (.bin .add (.bi .abs (.cons (.bin .sub (.ix (.var 2) (.int 0)) (.ix (.var 1) (.int 0))) .nil)) (.bi .abs (.cons (.bin .sub (.ix (.var 2) (.int 1)) (.ix (.var 1) (.int 1))) .nil))) (.int 1)) .nil)) b_law_line_1)
    .skip)))
def t_law_line : FText := ⟨"_law_line", "_law_line", .fn "_law_line", top 52, ["_law_pattern", "_law_first", "_law_last", "_law_way", "_law_x", "_law_y", "_law_k"], ["_law_pattern", "_law_first", "_law_last", "_law_way"], { np := 4, nl := 7, body := c_law_line }⟩
/-- _law_sum (24); slots: 0 _law_sets 1 _law_goes_on 2 _law_begun 3 _law_down 4 _law_below 5 _law_top -/
def c_law_sum : C :=
    (.seq (.asg (.var 3) (.tup (.cons (.str "wire") (.cons (.int 3) (.cons (.int 0) .nil)))))
    (.seq (.asg (.var 4) (.tup .nil))
    (.seq (.ite (.var 2) (.seq (.asg (.var 4) (.var 3))
    .skip) .skip)
    (.seq (.asg (.var 5) (.var 3))
    (.seq (.ite (.var 2) (.seq (.asg (.var 5) (.tup (.cons (.str "or") (.cons (.int 3) (.cons (.int 1) (.cons (.int 0) (.cons (.int 0) .nil)))))))
    .skip) .skip)
    (.seq (.ite (.and (.var 0) (.var 1)) (.seq (.ret (.tup (.cons (.tup (.cons (.str "wire") (.cons (.int 0) (.cons (.int 0) .nil)))) (.cons (.var 5) (.cons (.tup (.cons (.str "fork") (.cons (.int 0) (.cons (.int 0) (.cons (.int 0) (.cons (.int 0) .nil)))))) (.cons (.tup (.cons (.str "cross") (.cons (.int 0) (.cons (.int 1) (.cons (.int 0) (.cons (.int 0) .nil)))))) .nil))))))
    .skip) .skip)
    (.seq (.ite (.var 0) (.seq (.ret (.tup (.cons (.tup (.cons (.str "wire") (.cons (.int 0) (.cons (.int 0) .nil)))) (.cons (.var 5) (.cons (.tup (.cons (.str "wire") (.cons (.int 1) (.cons (.int 0) .nil)))) (.cons (.var 3) .nil))))))
    .skip) .skip)
    (.seq (.ite (.and (.var 1) (.var 2)) (.seq (.ret (.tup (.cons (.tup .nil) (.cons (.var 4) (.cons (.tup (.cons (.str "wire") (.cons (.int 0) (.cons (.int 0) .nil)))) (.cons (.tup (.cons (.str "cross") (.cons (.int 0) (.cons (.int 1) (.cons (.int 0) (.cons (.int 0) .nil)))))) .nil))))))
    .skip) .skip)
    (.seq (.ite (.var 1) (.seq (.ret (.tup (.cons (.tup .nil) (.cons (.tup .nil) (.cons (.tup (.cons (.str "wire") (.cons (.int 0) (.cons (.int 0) .nil)))) (.cons (.tup (.cons (.str "wire") (.cons (.int 0) (.cons (.int 0) .nil)))) .nil))))))
    .skip) .skip)
    (.seq (.ret (.tup (.cons (.tup .nil) (.cons (.var 4) (.cons (.tup .nil) (.cons (.var 4) .nil))))))
    .skip))))))))))
def t_law_sum : FText := ⟨"_law_sum", "_law_sum", .fn "_law_sum", top 53, ["_law_sets", "_law_goes_on", "_law_begun", "_law_down", "_law_below", "_law_top"], ["_law_sets", "_law_goes_on", "_law_begun"], { np := 3, nl := 6, body := c_law_sum }⟩
/-- _law_literal (25); slots: 0 _law_k 1 _law_bit 2 _law_fork 3 _law_gate 4 _law_turned -/
def c_law_literal : C :=
    (.seq (.asg (.var 2) (.tup (.cons (.str "fork") (.cons (.int 3) (.cons (.int 0) (.cons (.int 0) (.cons (.int 0) .nil)))))))
    (.seq (.asg (.var 3) (.tup (.cons (.str "and") (.cons (.int 0) (.cons (.int 0) (.cons (.int 0) (.cons (.int 0) .nil)))))))
    (.seq (.asg (.var 4) (.ix (.tup (.cons (.tup (.cons (.str "not") (.cons (.int 3) (.cons (.int 0) .nil)))) (.cons (.tup (.cons (.str "wire") (.cons (.int 3) (.cons (.int 0) .nil)))) .nil))) (.bi .int (.cons (.cmp .eq (.var 1) (.int 1)) .nil))))
    (.seq (.ite (.cmp .lt (.var 1) (.int 0)) (.seq (.ite (.cmp .eq (.var 0) (.int 0)) (.seq (.ret (.tup (.cons (.var 2) (.cons (.tup (.cons (.str "not") (.cons (.int 3) (.cons (.int 0) .nil)))) (.cons (.tup (.cons (.str "wire") (.cons (.int 0) (.cons (.int 0) .nil)))) (.cons (.var 3) .nil))))))
    .skip) .skip)
    (.seq (.ret (.tup (.cons (.tup (.cons (.str "wire") (.cons (.int 0) (.cons (.int 0) .nil)))) (.cons (.tup (.cons (.str "wire") (.cons (.int 3) (.cons (.int 0) .nil)))) (.cons (.tup (.cons (.str "wire") (.cons (.int 0) (.cons (.int 0) .nil)))) (.cons (.var 3) .nil))))))
    .skip)) .skip)
    (.seq (.ite (.cmp .eq (.var 0) (.int 0)) (.seq (.ret (.tup (.cons (.var 2) (.cons (.var 4) (.cons (.tup (.cons (.str "wire") (.cons (.int 3) (.cons (.int 0) .nil)))) (.cons (.tup (.cons (.str "wire") (.cons (.int 0) (.cons (.int 0) .nil)))) .nil))))))
    .skip) .skip)
    (.seq (.ret (.tup (.cons (.var 2) (.cons (.var 4) (.cons (.tup (.cons (.str "cross") (.cons (.int 0) (.cons (.int 1) (.cons (.int 0) (.cons (.int 0) .nil)))))) (.cons (.var 3) .nil))))))
    .skip))))))
def t_law_literal : FText := ⟨"_law_literal", "_law_literal", .fn "_law_literal", top 54, ["_law_k", "_law_bit", "_law_fork", "_law_gate", "_law_turned"], ["_law_k", "_law_bit"], { np := 2, nl := 5, body := c_law_literal }⟩
/-- _law_layout (26); slots: 0 _law_rows_here 1 _law_states 2 _law_inputs_here 3 _law_outputs 4 _law_bits 5 _law_k 6 _law_terms_here 7 _law_term 8 _law_literals 9 _law_sums 10 _law_pattern 11 _law_begun 12 _law_lines 13 _law_r 14 _law_sets 15 _law_south 16 _law_s 17 _law_column 18 _law_outs 19 _law_spot -/
def b_law_layout_1 : C :=
    (.seq (.ist (.var 10) (.var 19) (.tup (.cons (.str "wire") (.cons (.int 3) (.cons (.int 0) .nil)))))
    .skip)
def b_law_layout_2 : C :=
    (.seq (.ist (.var 10) (.tup (.cons (.bin .mul (.int 2) (.var 5)) (.cons (.bin .sub (.neg (.int 2)) (.var 16)) .nil))) (.tup (.cons (.str "cross") (.cons (.int 0) (.cons (.int 1) (.cons (.int 0) (.cons (.int 0) .nil)))))))
    .skip)
def b_law_layout_3 : C :=
    (.seq (.ex (.call i_law_line (.cons (.var 10) (.cons (.tup (.cons (.bin .mul (.int 2) (.var 5)) (.cons (.bin .sub (.neg (.int 2)) (.var 4)) .nil))) (.cons (.tup (.cons (.bin .mul (.int 2) (.var 5)) (.cons (.neg (.int 1)) .nil))) (.cons (.int 3) .nil))))))
    (.seq (.for (.var 16) (.rng (.cons (.var 4) .nil)) b_law_layout_2)
    .skip))
def b_law_layout_4 : C :=
    (.seq (.asg (.var 17) (.bin .add (.bin .add (.bin .mul (.int 2) (.var 8)) (.bin .mul (.int 2) (.var 16))) (.int 1)))
    (.seq (.ite (.cmp .gt (.var 16) (.int 0)) (.seq (.ex (.call i_law_line (.cons (.var 10) (.cons (.tup (.cons (.var 17) (.cons (.var 15) .nil))) (.cons (.tup (.cons (.var 17) (.cons (.bin .sub (.bin .add (.var 15) (.var 16)) (.int 1)) .nil))) (.cons (.int 3) .nil))))))
    .skip) .skip)
    (.seq (.ex (.call i_law_line (.cons (.var 10) (.cons (.tup (.cons (.var 17) (.cons (.bin .add (.var 15) (.var 16)) .nil))) (.cons (.tup (.cons (.neg (.var 16)) (.cons (.bin .add (.var 15) (.var 16)) .nil))) (.cons (.int 2) .nil))))))
    (.seq (.ex (.call i_law_line (.cons (.var 10) (.cons (.tup (.cons (.bin .sub (.neg (.int 1)) (.var 16)) (.cons (.bin .add (.var 15) (.var 16)) .nil))) (.cons (.tup (.cons (.bin .sub (.neg (.int 1)) (.var 16)) (.cons (.bin .sub (.neg (.int 1)) (.var 16)) .nil))) (.cons (.int 1) .nil))))))
    (.seq (.ex (.call i_law_line (.cons (.var 10) (.cons (.tup (.cons (.bin .sub (.neg (.int 1)) (.var 16)) (.cons (.bin .sub (.neg (.int 2)) (.var 16)) .nil))) (.cons (.tup (.cons (.bin .sub (.bin .mul (.int 2) (.bin .add (.var 2) (.var 16))) (.int 1)) (.cons (.bin .sub (.neg (.int 2)) (.var 16)) .nil))) (.cons (.int 0) .nil))))))
    (.seq (.ex (.call i_law_line (.cons (.var 10) (.cons (.tup (.cons (.bin .mul (.int 2) (.bin .add (.var 2) (.var 16))) (.cons (.bin .sub (.neg (.int 2)) (.var 16)) .nil))) (.cons (.tup (.cons (.bin .mul (.int 2) (.bin .add (.var 2) (.var 16))) (.cons (.neg (.int 2)) .nil))) (.cons (.int 3) .nil))))))
    (.seq (.ist (.var 10) (.tup (.cons (.bin .mul (.int 2) (.bin .add (.var 2) (.var 16))) (.cons (.neg (.int 1)) .nil))) (.tup (.cons (.str "wire") (.cons (.int 3) (.cons (.int 8) .nil)))))
    .skip)))))))
def b_law_layout_5 : C :=
    (.seq (.asg (.var 14) (.cmp .eq (.ix (.ix (.ix (.var 12) (.var 13)) (.int 1)) (.var 5)) (.int 1)))
    (.seq (.ex (.call i_law_field (.cons (.var 10) (.cons (.bin .add (.bin .mul (.int 2) (.var 8)) (.bin .mul (.int 2) (.var 5))) (.cons (.bin .mul (.int 2) (.var 13)) (.cons (.call i_law_sum (.cons (.var 14) (.cons (.cmp .in_ (.int 1) (.slc (.ix (.ix (.var 12) (.var 13)) (.int 1)) (.bin .add (.var 5) (.int 1)) .nil)) (.cons (.ix (.var 11) (.var 5)) .nil)))) .nil))))))
    (.seq (.ist (.var 11) (.var 5) (.or (.ix (.var 11) (.var 5)) (.var 14)))
    .skip)))
def b_law_layout_6 : C :=
    (.seq (.ex (.call i_law_field (.cons (.var 10) (.cons (.bin .mul (.int 2) (.var 5)) (.cons (.bin .mul (.int 2) (.var 13)) (.cons (.call i_law_literal (.cons (.var 5) (.cons (.ix (.ix (.ix (.var 12) (.var 13)) (.int 0)) (.var 5)) .nil))) .nil))))))
    .skip)
def b_law_layout_7 : C :=
    (.seq (.for (.var 5) (.rng (.cons (.var 8) .nil)) b_law_layout_6)
    (.seq (.for (.var 5) (.rng (.cons (.var 9) .nil)) b_law_layout_5)
    .skip))
def c_law_layout : C :=
    (.seq (.asg (.var 4) (.bi .len (.cons (.lc [5] (.var 5) (.rng (.cons (.int 3) .nil)) (.cmp .gt (.var 1) (.bi .len (.cons (.call i_law_words (.cons (.var 5) .nil)) .nil))) (.var 5)) .nil)))
    (.seq (.asg (.var 6) (.call i_law_terms (.cons (.var 0) (.cons (.var 2) (.cons (.var 4) .nil)))))
    (.seq (.ite (.cmp .eq (.bin .add (.var 2) (.var 4)) (.int 0)) (.seq (.asg (.var 4) (.int 1))
    (.seq (.asg (.var 6) (.lc [7] (.var 7) (.var 6) (.bl true) (.tup (.cons (.tup (.cons (.int 0) .nil)) (.cons (.bin .add (.tup (.cons (.int 0) .nil)) (.ix (.var 7) (.int 1))) .nil)))))
    .skip)) .skip)
    (.seq (.asg (.var 8) (.bin .add (.var 2) (.var 4)))
    (.seq (.asg (.var 9) (.bin .add (.var 4) (.var 3)))
    (.seq (.asg (.var 10) .dd0)
    (.seq (.asg (.var 11) (.bin .mul (.lst (.cons (.bl false) .nil)) (.var 9)))
    (.seq (.asg (.var 12) (.bin .add (.var 6) (.lst (.cons (.tup (.cons (.bin .mul (.tup (.cons (.neg (.int 1)) .nil)) (.var 8)) (.cons (.bin .mul (.tup (.cons (.int 1) .nil)) (.var 9)) .nil))) .nil))))
    (.seq (.for (.var 13) (.rng (.cons (.bi .len (.cons (.var 12) .nil)) .nil)) b_law_layout_7)
    (.seq (.asg (.var 15) (.bin .mul (.int 2) (.bi .len (.cons (.var 12) .nil))))
    (.seq (.for (.var 16) (.rng (.cons (.var 4) .nil)) b_law_layout_4)
    (.seq (.for (.var 5) (.rng (.cons (.var 2) .nil)) b_law_layout_3)
    (.seq (.asg (.var 18) (.bi .tuple (.cons (.lc [5] (.var 5) (.rng (.cons (.var 3) .nil)) (.bl true) (.tup (.cons (.bin .add (.bin .add (.bin .mul (.int 2) (.var 8)) (.bin .mul (.int 2) (.bin .add (.var 4) (.var 5)))) (.int 1)) (.cons (.var 15) .nil)))) .nil)))
    (.seq (.for (.var 19) (.var 18) b_law_layout_1)
    (.seq (.ret (.tup (.cons (.var 10) (.cons (.bi .tuple (.cons (.lc [5] (.var 5) (.rng (.cons (.var 2) .nil)) (.bl true) (.tup (.cons (.bin .mul (.int 2) (.var 5)) (.cons (.bin .sub (.neg (.int 2)) (.var 4)) .nil)))) .nil)) (.cons (.var 18) .nil)))))
    .skip)))))))))))))))
def t_law_layout : FText := ⟨"_law_layout", "_law_layout", .fn "_law_layout", top 55, ["_law_rows_here", "_law_states", "_law_inputs_here", "_law_outputs", "_law_bits", "_law_k", "_law_terms_here", "_law_term", "_law_literals", "_law_sums", "_law_pattern", "_law_begun", "_law_lines", "_law_r", "_law_sets", "_law_south", "_law_s", "_law_column", "_law_outs", "_law_spot"], ["_law_rows_here", "_law_states", "_law_inputs_here", "_law_outputs"], { np := 4, nl := 20, body := c_law_layout }⟩
/-- _law_same (27); slots: 0 _law_actual 1 _law_expected 2 _law_k -/
def b_law_same_1 : C :=
    (.seq (.ite (.not (.call i_law_same (.cons (.ix (.var 0) (.var 2)) (.cons (.ix (.var 1) (.var 2)) .nil)))) (.seq (.ret (.bl false))
    .skip) .skip)
    .skip)
def c_law_same : C :=
    (.seq (.ite (.isi (.var 1) [.tuple] false) (.seq (.ite (.or (.not (.isi (.var 0) [.tuple] false)) (.cmp .ne (.bi .len (.cons (.var 0) .nil)) (.bi .len (.cons (.var 1) .nil)))) (.seq (.ret (.bl false))
    .skip) .skip)
    (.seq (.for (.var 2) (.rng (.cons (.bi .len (.cons (.var 1) .nil)) .nil)) b_law_same_1)
    (.seq (.ret (.bl true))
    .skip))) .skip)
    (.seq (.ite (.isi (.var 1) [.str] false) (.seq (.ret (.and (.isi (.var 0) [.str] false) (.cmp .eq (.var 0) (.var 1))))
    .skip) .skip)
    (.seq (.ret (.and (.isi (.var 0) [.int] false) (.and (.not (.isi (.var 0) [.bool] false)) (.cmp .eq (.var 0) (.var 1)))))
    .skip)))
def t_law_same : FText := ⟨"_law_same", "_law_same", .fn "_law_same", top 58, ["_law_actual", "_law_expected", "_law_k"], ["_law_actual", "_law_expected"], { np := 2, nl := 3, body := c_law_same }⟩
/-- _law_drawn (28); slots: 0 _law_numbers_here 1 _law_place 2 _law_states 3 _law_inputs_here 4 _law_outputs -/
def c_law_drawn : C :=
    (.seq (.asg (.var 2) (.bin .add (.int 1) (.bin .mod (.call i_law_take (.cons (.var 0) (.cons (.var 1) .nil))) (.int 8))))
    (.seq (.asg (.var 3) (.bin .mod (.call i_law_take (.cons (.var 0) (.cons (.var 1) .nil))) (.int 4)))
    (.seq (.asg (.var 4) (.bin .add (.int 1) (.bin .mod (.call i_law_take (.cons (.var 0) (.cons (.var 1) .nil))) (.int 3))))
    (.seq (.ret (.tup (.cons (.var 2) (.cons (.var 3) (.cons (.var 4) (.cons (.call i_law_rows (.cons (.var 0) (.cons (.var 1) (.cons (.var 2) (.cons (.var 3) (.cons (.var 4) .nil)))))) .nil))))))
    .skip))))
def t_law_drawn : FText := ⟨"_law_drawn", "_law_drawn", .fn "_law_drawn", top 59, ["_law_numbers_here", "_law_place", "_law_states", "_law_inputs_here", "_law_outputs"], ["_law_numbers_here", "_law_place"], { np := 2, nl := 5, body := c_law_drawn }⟩
/-- law (29); slots: 0 _law_script 1 _law_numbers_here 2 _law_place 3 _law_drawn_here 4 _law_made 5 _law_row 6 _law_k 7 _law_expected 8 _law_spot -/
def b_law_1 : C :=
    (.seq (.ite (.not (.call i_law_same (.cons (.ix (.fld "Layout" "pattern" (.ix (.var 4) (.var 6))) (.var 8)) (.cons (.ix (.ix (.var 7) (.int 0)) (.var 8)) .nil)))) (.seq (.ret (.bl false))
    .skip) .skip)
    .skip)
def b_law_2 : C :=
    (.seq (.asg (.var 7) (.call i_law_layout (.cons (.ix (.ix (.var 3) (.var 6)) (.int 3)) (.cons (.ix (.ix (.var 3) (.var 6)) (.int 0)) (.cons (.ix (.ix (.var 3) (.var 6)) (.int 1)) (.cons (.ix (.ix (.var 3) (.var 6)) (.int 2)) .nil))))))
    (.seq (.ite (.or (.not (.isi (.fld "Layout" "pattern" (.ix (.var 4) (.var 6))) [.dict] false)) (.cmp .ne (.fld "Layout" "pattern" (.ix (.var 4) (.var 6))) (.ix (.var 7) (.int 0)))) (.seq (.ret (.bl false))
    .skip) .skip)
    (.seq (.for (.var 8) (.bi .sorted (.cons (.ix (.var 7) (.int 0)) .nil)) b_law_1)
    (.seq (.ite (.or (.not (.call i_law_same (.cons (.fld "Layout" "ins" (.ix (.var 4) (.var 6))) (.cons (.ix (.var 7) (.int 1)) .nil)))) (.not (.call i_law_same (.cons (.fld "Layout" "outs" (.ix (.var 4) (.var 6))) (.cons (.ix (.var 7) (.int 2)) .nil))))) (.seq (.ret (.bl false))
    .skip) .skip)
    .skip))))
def c_law : C :=
    (.seq (.asg (.var 1) (.call i_law_numbers (.cons (.var 0) (.cons (.int 130) .nil))))
    (.seq (.asg (.var 2) (.lst (.cons (.int 0) .nil)))
    (.seq (.asg (.var 3) (.lst (.cons (.call i_law_drawn (.cons (.var 1) (.cons (.var 2) .nil))) (.cons (.call i_law_drawn (.cons (.var 1) (.cons (.var 2) .nil))) .nil))))
    (.seq (.asg (.var 4) (.lc [5] (.var 5) (.var 3) (.bl true) (.call i_lay_out (.cons (.call i_Machine_new (.cons (.ix (.var 5) (.int 0)) (.cons (.ix (.var 5) (.int 1)) (.cons (.ix (.var 5) (.int 2)) (.cons (.bi .list (.cons (.ix (.var 5) (.int 3)) .nil)) .nil))))) .nil))))
    (.seq (.for (.var 6) (.rng (.cons (.int 2) .nil)) b_law_2)
    (.seq (.ret (.bl true))
    .skip))))))
def t_law : FText := ⟨"law", "law", .fn "law", top 60, ["_law_script", "_law_numbers_here", "_law_place", "_law_drawn_here", "_law_made", "_law_row", "_law_k", "_law_expected", "_law_spot"], ["_law_script"], { np := 1, nl := 9, body := c_law }⟩
/-- Machine.__init__ (30); slots: 0 self 1 states 2 inputs 3 outputs 4 rows 5 row -/
def b_Machine_init_1 : C :=
    (.seq (.ite (.or (.cmp .ne (.bi .len (.cons (.var 5) .nil)) (.int 2)) (.or (.not (.call i_is_integer (.cons (.ix (.var 5) (.int 0)) (.cons (.int 0) (.cons (.bin .sub (.var 1) (.int 1)) .nil))))) (.not (.call i_is_word (.cons (.ix (.var 5) (.int 1)) (.cons (.var 3) .nil)))))) (.seq (.raise 0)
    .skip) .skip)
    (.seq (.ex (.me .append (.fld "Machine" "_rows" (.var 0)) (.cons (.tup (.cons (.ix (.var 5) (.int 0)) (.cons (.ix (.var 5) (.int 1)) .nil))) .nil)))
    .skip))
def c_Machine_init : C :=
    (.seq (.ite (.or (.not (.call i_is_integer (.cons (.var 1) (.cons (.int 1) (.cons (.glb "MOST_STATES" (.int 8)) .nil))))) (.not (.call i_is_integer (.cons (.var 2) (.cons (.int 0) (.cons (.glb "MOST_INPUTS" (.int 3)) .nil)))))) (.seq (.raise 0)
    .skip) .skip)
    (.seq (.ite (.not (.call i_is_integer (.cons (.var 3) (.cons (.int 1) (.cons (.glb "MOST_OUTPUTS" (.int 3)) .nil))))) (.seq (.raise 0)
    .skip) .skip)
    (.seq (.ite (.cmp .ne (.bi .len (.cons (.var 4) .nil)) (.bin .mul (.var 1) (.bi .len (.cons (.call i_words (.cons (.var 2) .nil)) .nil)))) (.seq (.raise 0)
    .skip) .skip)
    (.seq (.fst "Machine" "states" (.var 0) (.var 1))
    (.seq (.fst "Machine" "inputs" (.var 0) (.var 2))
    (.seq (.fst "Machine" "outputs" (.var 0) (.var 3))
    (.seq (.fst "Machine" "_rows" (.var 0) (.lst .nil))
    (.seq (.for (.var 5) (.var 4) b_Machine_init_1)
    .skip))))))))
def t_Machine_init : FText := ⟨"__init__", "Machine.__init__", .me "Machine" "__init__", inClass (top 14) 0, ["self", "states", "inputs", "outputs", "rows", "row"], ["self", "states", "inputs", "outputs", "rows"], { np := 5, nl := 6, body := c_Machine_init }⟩
/-- Machine.row (31); slots: 0 self 1 state 2 word -/
def c_Machine_row : C :=
    (.seq (.ite (.not (.call i_is_integer (.cons (.var 1) (.cons (.int 0) (.cons (.bin .sub (.fld "Machine" "states" (.var 0)) (.int 1)) .nil))))) (.seq (.raise 0)
    .skip) .skip)
    (.seq (.ite (.not (.call i_is_word (.cons (.var 2) (.cons (.fld "Machine" "inputs" (.var 0)) .nil)))) (.seq (.raise 1)
    .skip) .skip)
    (.seq (.ret (.ix (.fld "Machine" "_rows" (.var 0)) (.bin .add (.bin .mul (.var 1) (.bi .len (.cons (.call i_words (.cons (.fld "Machine" "inputs" (.var 0)) .nil)) .nil))) (.call i_number_of (.cons (.var 2) .nil)))))
    .skip)))
def t_Machine_row : FText := ⟨"row", "Machine.row", .me "Machine" "row", inClass (top 14) 2, ["self", "state", "word"], ["self", "state", "word"], { np := 3, nl := 3, body := c_Machine_row }⟩
def t_Machine_new : FText := ⟨"Machine", "Machine", .mk "Machine", .Pass ⟨0, 0, 0, 0⟩, [], [], { np := 4, nl := 0, body := .skip, ctor := some ("Machine", 30) }⟩
/-- Layout.__init__ (33); slots: 0 self 1 pattern 2 ins 3 outs -/
def c_Layout_init : C :=
    (.seq (.fst "Layout" "pattern" (.var 0) (.var 1))
    (.seq (.fst "Layout" "ins" (.var 0) (.var 2))
    (.seq (.fst "Layout" "outs" (.var 0) (.var 3))
    .skip)))
def t_Layout_init : FText := ⟨"__init__", "Layout.__init__", .me "Layout" "__init__", inClass (top 31) 0, ["self", "pattern", "ins", "outs"], ["self", "pattern", "ins", "outs"], { np := 4, nl := 4, body := c_Layout_init }⟩
def t_Layout_new : FText := ⟨"Layout", "Layout", .mk "Layout", .Pass ⟨0, 0, 0, 0⟩, [], [], { np := 3, nl := 0, body := .skip, ctor := some ("Layout", 33) }⟩
def Ts : List FText := [t_is_integer, t_is_word, t_number_of, t_word_of, t_words, t_state_bits, t_plane, t_wire, t_literal, t_zero_literal, t_sum, t_put_field, t_put_rows, t_put_line, t_put_state, t_lay_out, t_law_numbers, t_law_take, t_law_words, t_law_word, t_law_rows, t_law_field, t_law_terms, t_law_line, t_law_sum, t_law_literal, t_law_layout, t_law_same, t_law_drawn, t_law, t_Machine_init, t_Machine_row, t_Machine_new, t_Layout_init, t_Layout_new]
def atrs : List (Str × Str) := [("Machine", "_rows"), ("Machine", "inputs"), ("Layout", "ins"), ("Machine", "outputs"), ("Layout", "outs"), ("Layout", "pattern"), ("Machine", "states")]
def glbs : List (Str × GC) := [("AND", .v (.tup [(.str "and"), (.int 0), (.int 0), (.int 0), (.int 0)])), ("CROSS", .v (.tup [(.str "cross"), (.int 0), (.int 1), (.int 0), (.int 0)])), ("EAST", .v (.int 0)), ("FORK_EAST", .v (.tup [(.str "fork"), (.int 0), (.int 0), (.int 0), (.int 0)])), ("FORK_SOUTH", .v (.tup [(.str "fork"), (.int 3), (.int 0), (.int 0), (.int 0)])), ("MOST_INPUTS", .v (.int 3)), ("MOST_OUTPUTS", .v (.int 3)), ("MOST_STATES", .v (.int 8)), ("NORTH", .v (.int 1)), ("NOT_SOUTH", .v (.tup [(.str "not"), (.int 3), (.int 0)])), ("OR", .v (.tup [(.str "or"), (.int 3), (.int 1), (.int 0), (.int 0)])), ("SOUTH", .v (.int 3)), ("WEST", .v (.int 2)), ("ZERO", .v (.int 8))]
def blts : List Str := ["abs", "all", "bool", "dict", "enumerate", "int", "isinstance", "len", "list", "range", "sorted", "str", "tuple"]
def exs : List Str := ["BadMachine", "BadWord"]
def isa : List (Str × List Bool) := []
def gam (K : PySem.W.Frag) (c : Nat) : Value := gamX exs K c
def Fs : List Fn := Ts.map (·.fn)
theorem cl_is_integer (k : Nat) (x0 x1 x2 : D) (S : Store) : callN Fs (k + 1) i_is_integer [x0, x1, x2] S = finO S (run (callN Fs k) c_is_integer [some x0, some x1, some x2] S) := rfl
theorem cl_is_word (k : Nat) (x0 x1 : D) (S : Store) : callN Fs (k + 1) i_is_word [x0, x1] S = finO S (run (callN Fs k) c_is_word [some x0, some x1, none] S) := rfl
theorem cl_number_of (k : Nat) (x0 : D) (S : Store) : callN Fs (k + 1) i_number_of [x0] S = finO S (run (callN Fs k) c_number_of [some x0, none, none] S) := rfl
theorem cl_word_of (k : Nat) (x0 x1 : D) (S : Store) : callN Fs (k + 1) i_word_of [x0, x1] S = finO S (run (callN Fs k) c_word_of [some x0, some x1, none, none] S) := rfl
theorem cl_words (k : Nat) (x0 : D) (S : Store) : callN Fs (k + 1) i_words [x0] S = finO S (run (callN Fs k) c_words [some x0, none, none, none, none] S) := rfl
theorem cl_state_bits (k : Nat) (x0 : D) (S : Store) : callN Fs (k + 1) i_state_bits [x0] S = finO S (run (callN Fs k) c_state_bits [some x0] S) := rfl
theorem cl_plane (k : Nat) (x0 : D) (S : Store) : callN Fs (k + 1) i_plane [x0] S = finO S (run (callN Fs k) c_plane [some x0, none, none, none, none, none, none, none] S) := rfl
theorem cl_wire (k : Nat) (x0 : D) (S : Store) : callN Fs (k + 1) i_wire [x0] S = finO S (run (callN Fs k) c_wire [some x0] S) := rfl
theorem cl_literal (k : Nat) (x0 x1 : D) (S : Store) : callN Fs (k + 1) i_literal [x0, x1] S = finO S (run (callN Fs k) c_literal [some x0, some x1, none] S) := rfl
theorem cl_zero_literal (k : Nat) (x0 : D) (S : Store) : callN Fs (k + 1) i_zero_literal [x0] S = finO S (run (callN Fs k) c_zero_literal [some x0] S) := rfl
theorem cl_sum (k : Nat) (x0 x1 x2 : D) (S : Store) : callN Fs (k + 1) i_sum [x0, x1, x2] S = finO S (run (callN Fs k) c_sum [some x0, some x1, some x2, none, none] S) := rfl
theorem cl_put_field (k : Nat) (x0 x1 x2 x3 : D) (S : Store) : callN Fs (k + 1) i_put_field [x0, x1, x2, x3] S = finO S (run (callN Fs k) c_put_field [some x0, some x1, some x2, some x3, none, none] S) := rfl
theorem cl_put_rows (k : Nat) (x0 x1 x2 x3 : D) (S : Store) : callN Fs (k + 1) i_put_rows [x0, x1, x2, x3] S = finO S (run (callN Fs k) c_put_rows [some x0, some x1, some x2, some x3, none, none, none, none, none, none, none, none] S) := rfl
theorem cl_put_line (k : Nat) (x0 x1 x2 x3 : D) (S : Store) : callN Fs (k + 1) i_put_line [x0, x1, x2, x3] S = finO S (run (callN Fs k) c_put_line [some x0, some x1, some x2, some x3, none, none, none] S) := rfl
theorem cl_put_state (k : Nat) (x0 x1 x2 x3 x4 : D) (S : Store) : callN Fs (k + 1) i_put_state [x0, x1, x2, x3, x4] S = finO S (run (callN Fs k) c_put_state [some x0, some x1, some x2, some x3, some x4, none] S) := rfl
theorem cl_lay_out (k : Nat) (x0 : D) (S : Store) : callN Fs (k + 1) i_lay_out [x0] S = finO S (run (callN Fs k) c_lay_out [some x0, none, none, none, none, none, none, none, none, none, none, none] S) := rfl
theorem cl_law_numbers (k : Nat) (x0 x1 : D) (S : Store) : callN Fs (k + 1) i_law_numbers [x0, x1] S = finO S (run (callN Fs k) c_law_numbers [some x0, some x1, none, none, none, none, none] S) := rfl
theorem cl_law_take (k : Nat) (x0 x1 : D) (S : Store) : callN Fs (k + 1) i_law_take [x0, x1] S = finO S (run (callN Fs k) c_law_take [some x0, some x1] S) := rfl
theorem cl_law_words (k : Nat) (x0 : D) (S : Store) : callN Fs (k + 1) i_law_words [x0] S = finO S (run (callN Fs k) c_law_words [some x0, none, none, none, none] S) := rfl
theorem cl_law_word (k : Nat) (x0 x1 : D) (S : Store) : callN Fs (k + 1) i_law_word [x0, x1] S = finO S (run (callN Fs k) c_law_word [some x0, some x1, none, none] S) := rfl
theorem cl_law_rows (k : Nat) (x0 x1 x2 x3 x4 : D) (S : Store) : callN Fs (k + 1) i_law_rows [x0, x1, x2, x3, x4] S = finO S (run (callN Fs k) c_law_rows [some x0, some x1, some x2, some x3, some x4, none, none, none, none, none, none] S) := rfl
theorem cl_law_field (k : Nat) (x0 x1 x2 x3 : D) (S : Store) : callN Fs (k + 1) i_law_field [x0, x1, x2, x3] S = finO S (run (callN Fs k) c_law_field [some x0, some x1, some x2, some x3, none] S) := rfl
theorem cl_law_terms (k : Nat) (x0 x1 x2 : D) (S : Store) : callN Fs (k + 1) i_law_terms [x0, x1, x2] S = finO S (run (callN Fs k) c_law_terms [some x0, some x1, some x2, none, none, none, none] S) := rfl
theorem cl_law_line (k : Nat) (x0 x1 x2 x3 : D) (S : Store) : callN Fs (k + 1) i_law_line [x0, x1, x2, x3] S = finO S (run (callN Fs k) c_law_line [some x0, some x1, some x2, some x3, none, none, none] S) := rfl
theorem cl_law_sum (k : Nat) (x0 x1 x2 : D) (S : Store) : callN Fs (k + 1) i_law_sum [x0, x1, x2] S = finO S (run (callN Fs k) c_law_sum [some x0, some x1, some x2, none, none, none] S) := rfl
theorem cl_law_literal (k : Nat) (x0 x1 : D) (S : Store) : callN Fs (k + 1) i_law_literal [x0, x1] S = finO S (run (callN Fs k) c_law_literal [some x0, some x1, none, none, none] S) := rfl
theorem cl_law_layout (k : Nat) (x0 x1 x2 x3 : D) (S : Store) : callN Fs (k + 1) i_law_layout [x0, x1, x2, x3] S = finO S (run (callN Fs k) c_law_layout [some x0, some x1, some x2, some x3, none, none, none, none, none, none, none, none, none, none, none, none, none, none, none, none] S) := rfl
theorem cl_law_same (k : Nat) (x0 x1 : D) (S : Store) : callN Fs (k + 1) i_law_same [x0, x1] S = finO S (run (callN Fs k) c_law_same [some x0, some x1, none] S) := rfl
theorem cl_law_drawn (k : Nat) (x0 x1 : D) (S : Store) : callN Fs (k + 1) i_law_drawn [x0, x1] S = finO S (run (callN Fs k) c_law_drawn [some x0, some x1, none, none, none] S) := rfl
theorem cl_law (k : Nat) (x0 : D) (S : Store) : callN Fs (k + 1) i_law [x0] S = finO S (run (callN Fs k) c_law [some x0, none, none, none, none, none, none, none, none] S) := rfl
theorem cl_Machine_init (k : Nat) (x0 x1 x2 x3 x4 : D) (S : Store) : callN Fs (k + 1) i_Machine_init [x0, x1, x2, x3, x4] S = finO S (run (callN Fs k) c_Machine_init [some x0, some x1, some x2, some x3, some x4, none] S) := rfl
theorem cl_Machine_row (k : Nat) (x0 x1 x2 : D) (S : Store) : callN Fs (k + 1) i_Machine_row [x0, x1, x2] S = finO S (run (callN Fs k) c_Machine_row [some x0, some x1, some x2] S) := rfl
theorem cl_Machine_new (k : Nat) (ds : List D) (S : Store) : callN Fs (k + 1) i_Machine_new ds S = mkR "Machine" (callN Fs k i_Machine_init) ds S := rfl
theorem cl_Layout_init (k : Nat) (x0 x1 x2 x3 : D) (S : Store) : callN Fs (k + 1) i_Layout_init [x0, x1, x2, x3] S = finO S (run (callN Fs k) c_Layout_init [some x0, some x1, some x2, some x3] S) := rfl
theorem cl_Layout_new (k : Nat) (ds : List D) (S : Store) : callN Fs (k + 1) i_Layout_new ds S = mkR "Layout" (callN Fs k i_Layout_init) ds S := rfl
end Lw

set_option Elab.async false
set_option linter.all false
set_option maxRecDepth 100000
set_option maxHeartbeats 400000
namespace Lw
open PySem L2 Ng
/-! words of bits, numbers -/
abbrev wD (w : List Int) : D := .tup (w.map D.int)
def WS : Nat → List (List Int)
  | 0 => [[]]
  | b + 1 => (WS b).flatMap fun w => [w ++ [0], w ++ [1]]
theorem WS_len : ∀ b, (WS b).length = 2 ^ b
  | 0 => rfl
  | b + 1 => by
    have ih := WS_len b
    have : ∀ l : List (List Int), (l.flatMap fun w => [w ++ [0], w ++ [1]]).length = 2 * l.length := fun l => by
      induction l with
      | nil => rfl
      | cons x l ih => simp [ih]; omega
    simp only [WS, this, ih, Nat.pow_succ]
    omega
theorem WS_le {b : Nat} (h : b ≤ 3) : (WS b).length ≤ 8 := by
  rw [WS_len]
  match b, h with
  | 0, _ => decide
  | 1, _ => decide
  | 2, _ => decide
  | 3, _ => decide
theorem WS_wlen : ∀ (b : Nat) (w : List Int), w ∈ WS b → w.length = b
  | 0, w, h => by simp [WS] at h; simp [h]
  | b + 1, w, h => by
    simp only [WS, List.mem_flatMap] at h
    obtain ⟨v, hv, hw⟩ := h
    have := WS_wlen b v hv
    simp at hw
    rcases hw with rfl | rfl <;> simp [this]
def val (w : List Int) : Int := w.foldl (fun n b => 2 * n + b) 0
def Bits (w : List Int) : Prop := ∀ x ∈ w, x = 0 ∨ x = 1
theorem val_from : ∀ (w : List Int) (a : Int), Bits w → 0 ≤ a → 0 ≤ w.foldl (fun n b => 2 * n + b) a ∧ w.foldl (fun n b => 2 * n + b) a < (a + 1) * 2 ^ w.length
  | [], a, _, h => by simp; omega
  | x :: w, a, hb, h => by
    have hx := hb x List.mem_cons_self
    have ih := val_from w (2 * a + x) (fun y hy => hb y (List.mem_cons_of_mem _ hy)) (by omega)
    refine ⟨ih.1, Int.lt_of_lt_of_le ih.2 ?_⟩
    simp only [List.length_cons, Int.pow_succ]
    have h2 : (0 : Int) ≤ 2 ^ w.length := Int.pow_nonneg (by decide)
    have : (2 * a + x + 1) * 2 ^ w.length ≤ (2 * a + 2) * 2 ^ w.length := Int.mul_le_mul_of_nonneg_right (by omega) h2
    have e : (a + 1) * (2 ^ w.length * 2) = (2 * a + 2) * 2 ^ w.length := by
      rw [Int.mul_comm (2 ^ w.length) 2, ← Int.mul_assoc, Int.add_mul]
      congr 1
      omega
    omega
theorem val_bd {w : List Int} (h : Bits w) : 0 ≤ val w ∧ val w < 2 ^ w.length := by
  have := val_from w 0 h (by decide)
  unfold val
  omega
theorem take_succ_val {w : List Int} {j : Nat} {x : Int} (h : w[j]? = some x) : val (w.take (j + 1)) = 2 * val (w.take j) + x := by
  have hj := (List.getElem?_eq_some_iff.mp h).1
  unfold val
  rw [List.take_succ, h, Option.toList_some, List.foldl_append]
  rfl
theorem val_big {w : List Int} (h : Bits w) (hl : w.length ≤ 60) (j : Nat) : 0 ≤ val (w.take j) ∧ val (w.take j) < 2 ^ 60 := by
  have hb : Bits (w.take j) := fun x hx => h x (List.mem_of_mem_take hx)
  have := val_bd hb
  refine ⟨this.1, Int.lt_of_lt_of_le this.2 ?_⟩
  have h3 : (w.take j).length ≤ 60 := by rw [List.length_take]; omega
  exact_mod_cast Nat.pow_le_pow_right (by decide) h3
section
variable {k : Nat} {S : Store}
theorem isint_ok (i lo hi : Int) : callN Fs (k + 1) i_is_integer [.int i, .int lo, .int hi] S = .ok (.bl (decide (lo ≤ i) && decide (i ≤ hi))) S := by
  rw [cl_is_integer]
  by_cases h : lo ≤ i
  · simp [c_is_integer, varR, chainV, cmp2, cmpR, h]
  · simp [c_is_integer, varR, chainV, cmp2, cmpR, h]
theorem isint_yes {i lo hi : Int} (h1 : lo ≤ i) (h2 : i ≤ hi) : callN Fs (k + 1) i_is_integer [.int i, .int lo, .int hi] S = .ok (.bl true) S := by
  rw [isint_ok]; simp [h1, h2]
theorem isword_yes {w : List Int} {b : Nat} (hl : w.length = b) (hb : Bits w) (hs : b ≤ 1000) : callN Fs (k + 2) i_is_word [wD w, .int b] S = .ok (.bl true) S := by
  rw [cl_is_word]
  have e := lc_pure (ρ := [some (wD w), some (.int b), none]) (S := S) (own := [2]) (tg := .var 2) (cond := tst (callN Fs (k + 1)) (.bl true)) (elt := ev (callN Fs (k + 1)) (.call i_is_integer (.cons (.var 2) (.cons (.int 0) (.cons (.int 1) .nil))))) (it := ⟨w.map D.int, none⟩) (g := fun _ => some (.bl true))
    (by simp; omega) (fun _ => rfl) (fun x hx c => by
      obtain ⟨i, hi, rfl⟩ := List.mem_map.mp hx
      have h := hb i hi
      have q := fun S => isint_yes (k := k) (S := S) (i := i) (lo := 0) (hi := 1) (by omega) (by omega)
      simp [lcF, asgT, wipeE, varR, q])
  have e2 : (w.map D.int).filterMap (fun _ => some (D.bl true)) = (w.map fun _ => true).map D.bl := by
    rw [List.filterMap_eq_map', List.map_map, List.map_map]; rfl
  rw [e2] at e
  have ha : biD .all [.ref S.length] (S ++ [.lst ((w.map fun _ => true).map D.bl)]) = .ok (.bl true) (S ++ [.lst ((w.map fun _ => true).map D.bl)]) := by
    rw [all_lst (bs := w.map fun _ => true) (by simp)]
    simp
  have hi : itr (callN Fs (k + 1)) (.var 0) [some (wD w), some (.int b), none] S = .ok ⟨w.map D.int, none⟩ S := by simp [varR]
  have hv : ev (callN Fs (k + 1)) (.bi .all (.cons (.lc [2] (.var 2) (.var 0) (.bl true) (.call i_is_integer (.cons (.var 2) (.cons (.int 0) (.cons (.int 1) .nil))))) .nil)) [some (wD w), some (.int b), none] S = .ok (.bl true) (S ++ [.lst ((w.map fun _ => true).map D.bl)]) := by
    rw [ev_bi, evs_cons, ev_lc, hi, bind_ok, e, bind_ok, evs_nil, bind_ok, bind_ok, ha]
  unfold c_is_word
  rw [run_seq, show run (callN Fs (k + 1)) (.ite (.or (.not (.isi (.var 0) [.tuple] false)) (.cmp .ne (.bi .len (.cons (.var 0) .nil)) (.var 1))) (.seq (.ret (.bl false)) .skip) .skip) [some (wD w), some (.int b), none] S = .nx [some (wD w), some (.int b), none] S from by
    simp [varR, hl], seq_nx, run_seq, run_ret, hv, of_ok, seq_ret, finO_ret]
  simp
theorem number_of_ok {w : List Int} (hb : Bits w) (hl : w.length ≤ 60) : callN Fs (k + 1) i_number_of [wD w] S = .ok (.int (val w)) S := by
  rw [cl_number_of]
  obtain ⟨ρ1, S1, e1, ⟨o, rfl⟩, rfl⟩ := for_inv (ck := ckS none) (f := fun x ρ S => (asgO (.var 2) x ρ S).seq (run (callN Fs k) b_number_of_1)) (ds := w.map D.int) (ρ := [some (wD w), some (.int 0), none]) (S := S)
    (fun j ρ' S' => (∃ o, ρ' = [some (wD w), some (.int (val (w.take j))), o]) ∧ S' = S) ⟨⟨none, rfl⟩, rfl⟩ (fun _ _ _ _ => rfl) (fun j x ρ' S' hj ⟨⟨o, e1⟩, e2⟩ => by
      subst e1 e2
      rw [List.getElem?_map] at hj
      cases h : w[j]? with
      | none => rw [h] at hj; cases hj
      | some i =>
        rw [h] at hj
        cases hj
        have hv := val_big hb hl j
        refine ⟨_, S', ?_, ⟨some (.int i), rfl⟩, rfl⟩
        rw [take_succ_val h]
        simp [b_number_of_1, varR])
  rw [List.length_map, List.take_length] at e1
  unfold c_number_of
  rw [run_seq, show run (callN Fs k) (.asg (.var 1) (.int 0)) [some (wD w), none, none] S1 = .nx [some (wD w), some (.int 0), none] S1 from by simp, seq_nx, run_seq, run_for]
  rw [show itr (callN Fs k) (.var 0) [some (wD w), some (.int 0), none] S1 = .ok ⟨w.map D.int, none⟩ S1 from by simp [varR], of_ok]
  simp only
  rw [e1]
  simp [varR]
def apD : D → D → D
  | .tup ds, y => .tup (ds ++ [y])
  | _, _ => .non
theorem apD_w (v : List Int) (i : Int) : apD (wD v) (.int i) = wD (v ++ [i]) := by simp [apD, wD]
theorem ap_WS : ∀ l : List (List Int), (l.map wD).flatMap (fun x => [D.int 0, D.int 1].map (apD x)) = (l.flatMap fun w => [w ++ [0], w ++ [1]]).map wD
  | [] => rfl
  | v :: l => by
    have ih := ap_WS l
    rw [List.map_cons, List.flatMap_cons, List.flatMap_cons, List.map_append, ih]
    simp only [List.map_cons, List.map_nil, apD_w]
theorem nb_ints : ∀ v : List Int, nbDs (v.map D.int) = true
  | [] => rfl
  | i :: v => by simp [nbDs, nbD, nb_ints v]
theorem nb_words : ∀ l : List (List Int), nbDs (l.map wD) = true
  | [] => rfl
  | v :: l => by simp [nbDs, nbD, nb_ints v, nb_words l]
theorem refs_words (l : List (List Int)) : D.refsL (l.map wD) = [] := pures_refs (nbs_pure (nb_words l))
/-- all words of so many bits -/
theorem words_ok {b : Nat} (hb : b ≤ 3) : callN Fs (k + 1) i_words [.int b] S = .ok (.ref S.length) (S ++ [.lst ((WS b).map wD)]) := by
  rw [cl_words]
  obtain ⟨ρ1, S1, e1, m, T, o, rfl, rfl, h1⟩ := for_inv (ck := ckS none) (f := fun x ρ S => (asgO (.var 2) x ρ S).seq (run (callN Fs k) b_words_1)) (ds := rngD 0 b) (ρ := [some (.int b), some (.ref S.length), none, none, none]) (S := S ++ [.lst ((WS 0).map wD)])
    (fun j ρ' S' => ∃ m T o, ρ' = [some (.int b), some (.ref (S.length + m)), o, none, none] ∧ S' = S ++ T ∧ T[m]? = some (.lst ((WS j).map wD))) ⟨0, _, none, rfl, rfl, rfl⟩ (fun _ _ _ _ => rfl) (fun j x ρ' S' hj ⟨m, T, o, e1, e2, h1⟩ => by
      subst e1 e2
      obtain ⟨hj2, rfl⟩ := rng_at0 hj
      have hj3 : (WS j).length ≤ 8 := WS_le (by omega)
      have hm := (List.getElem?_eq_some_iff.mp h1).1
      have hg : ∀ c, (S ++ T ++ c)[S.length + m]? = some (.lst ((WS j).map wD)) := fun c => by rw [List.append_assoc, getk, List.getElem?_append_left hm, h1]
      have hg0 : (S ++ T)[S.length + m]? = some (.lst ((WS j).map wD)) := by rw [getk, h1]
      have e := lc2_pure (own := [3, 4]) (own2 := [4]) (tg := .var 3) (tg2 := .var 4) (src2 := itr (callN Fs k) (.tup (.cons (.int 0) (.cons (.int 1) .nil)))) (elt := ev (callN Fs k) (.bin .add (.var 3) (.tup (.cons (.var 4) .nil)))) (ρ := [some (.int b), some (.ref (S.length + m)), some (.int j), none, none]) (S := S ++ T)
        (it := ⟨(WS j).map wD, some (S.length + m, .lst ((WS j).map wD))⟩) (ys := [.int 0, .int 1]) (g := apD) (by simp; omega) (by simp) (fun c => by simp only [ckS_some, hg [c], decide_true]) (fun x hx => by
          obtain ⟨w, hw, rfl⟩ := List.mem_map.mp hx
          have hwl := WS_wlen j w hw
          refine ⟨[some (.int b), some (.ref (S.length + m)), some (.int j), some (wD w), none], rfl, fun c => by simp [linesz_is], fun y hy c => ?_⟩
          have hl3 : (w.map D.int).length + 1 ≤ linesz := by rw [List.length_map, hwl]; unfold linesz; omega
          have ht : ∀ S, bin2 .add (wD w) (.tup [y]) S = .ok (.tup (w.map D.int ++ [y])) S := fun S => b2_tcat hl3
          simp [lcF, asgT, wipeE, varR, linesz_is, ht, apD])
      have e2 : ((WS j).map wD).flatMap (fun x => [D.int 0, D.int 1].map (apD x)) = (WS (j + 1)).map wD := ap_WS (WS j)
      simp only [e2] at e
      refine ⟨[some (.int b), some (.ref (S.length + T.length)), some (.int j), none, none], S ++ (T ++ [.lst ((WS (j + 1)).map wD)]), ?_, T.length, _, some (.int j), rfl, rfl, by simp⟩
      simp only [asgO_var, List.set_cons_succ, List.set_cons_zero, seq_nx]
      unfold b_words_1
      rw [run_seq, run_asg, ev_lc2, itr_var, show varR 1 [some (D.int b), some (D.ref (S.length + m)), some (D.int j), none, none] (S ++ T) = .ok (.ref (S.length + m)) (S ++ T) from rfl, bind_ok, itD_lst hg0, bind_ok, e, of_ok]
      simp)
  rw [rng_len] at h1
  have hb2 : -4611686018427387904 ≤ (b : Int) ∧ (b : Int) < 4611686018427387904 := by omega
  unfold c_words
  rw [run_seq, show run (callN Fs k) (.asg (.var 1) (.lst (.cons (.tup .nil) .nil))) [some (.int b), none, none, none, none] S = .nx [some (.int b), some (.ref S.length), none, none, none] (S ++ [.lst ((WS 0).map wD)]) from by simp [linesz_is, WS], seq_nx, run_seq, run_for,
    show itr (callN Fs k) (.rng (.cons (.var 0) .nil)) [some (.int b), some (.ref S.length), none, none, none] (S ++ [.lst ((WS 0).map wD)]) = .ok ⟨rngD 0 b, none⟩ (S ++ [.lst ((WS 0).map wD)]) from by simp [varR, hb2], of_ok]
  simp only
  rw [e1]
  simp [varR]
  refine fin_at h1 ?_
  exact refs_words _
end
end Lw

set_option Elab.async false
set_option linter.all false
set_option maxRecDepth 100000
set_option maxHeartbeats 400000
namespace Lw
open PySem L2 Ng
/-! the law's own numbers, words, rows -/
def NumOk (ns : List Int) : Prop := ∀ d ∈ ns, 0 ≤ d ∧ d < 1000
theorem NumOk.snoc {ds : List Int} {d : Int} (h : NumOk ds) (h0 : 0 ≤ d) (h1 : d < 1000) : NumOk (ds ++ [d]) := by
  intro x hx
  rcases List.mem_append.mp hx with hx | hx
  · exact h x hx
  · simp at hx; subst hx; exact ⟨h0, h1⟩
section
variable {k : Nat} {S : Store}
/-- where the numbers and the place lie -/
structure PL (S : Store) (n p : Nat) (ns : List Int) : Prop where
  num : S[n]? = some (.lst (ns.map D.int))
  pl : ∃ i : Int, 0 ≤ i ∧ S[p]? = some (.lst [.int i])
  ne : n ≠ p
  ok : NumOk ns
/-- the place moved -/
def Mv (p : Nat) (S S' : Store) : Prop := ∃ i : Int, 0 ≤ i ∧ S' = S.set p (.lst [.int i])
theorem Mv.trans {p : Nat} {S S1 S2 : Store} (a : Mv p S S1) (b : Mv p S1 S2) : Mv p S S2 := by
  obtain ⟨i, _, rfl⟩ := a
  obtain ⟨j, hj, rfl⟩ := b
  exact ⟨j, hj, by rw [List.set_set]⟩
theorem Mv.len {p : Nat} {S S1 : Store} (a : Mv p S S1) : S1.length = S.length := by obtain ⟨i, _, rfl⟩ := a; simp
theorem PL.lt {S : Store} {n p : Nat} {ns : List Int} (h : PL S n p ns) : p < S.length := by obtain ⟨i, _, e⟩ := h.pl; exact (List.getElem?_eq_some_iff.mp e).1
theorem PL.app {S : Store} {n p : Nat} {ns : List Int} (h : PL S n p ns) (l : List Cell) : PL (S ++ l) n p ns := ⟨get_lo h.num, let ⟨i, hi, e⟩ := h.pl; ⟨i, hi, get_lo e⟩, h.ne, h.ok⟩
theorem PL.mv {S S1 : Store} {n p : Nat} {ns : List Int} (h : PL S n p ns) (m : Mv p S S1) : PL S1 n p ns := by
  obtain ⟨i, hi, rfl⟩ := m
  exact ⟨by rw [List.getElem?_set_ne (Ne.symm h.ne)]; exact h.num, ⟨i, hi, List.getElem?_set_self h.lt⟩, h.ne, h.ok⟩
theorem set_app {S l : List Cell} {p : Nat} {c : Cell} (h : p < S.length) : (S ++ l).set p c = S.set p c ++ l := List.set_append_left _ _ h
theorem Mv.app {S S1 : Store} {p : Nat} {l : List Cell} (hp : p < S.length) (m : Mv p (S ++ l) S1) : ∃ S2, Mv p S S2 ∧ S1 = S2 ++ l := by
  obtain ⟨i, hi, rfl⟩ := m
  exact ⟨_, ⟨i, hi, rfl⟩, set_app hp⟩
theorem Mv.get {S S1 : Store} {p n : Nat} {c : Cell} (m : Mv p S S1) (h : S[n]? = some c) (hne : n ≠ p) : S1[n]? = some c := by
  obtain ⟨i, _, rfl⟩ := m
  rw [List.getElem?_set_ne (Ne.symm hne)]; exact h
theorem fin_mv {d : D} {p : Nat} {S1 : Store} {l : List Cell} (m : Mv p S S1) (h : d.refs = []) : fin S d (S1 ++ l) = .ok d S1 := by
  obtain ⟨i, _, rfl⟩ := m
  exact fin_set h (by simp [Cell.refs])
theorem fin_mv_at {ds : List D} {p i : Nat} {S1 : Store} {cs : List Cell} (m : Mv p S S1) (hc : cs[i]? = some (.lst ds)) (h : D.refsL ds = []) : fin S (.ref (S.length + i)) (S1 ++ cs) = .ok (.ref S.length) (S1 ++ [.lst ds]) := by
  obtain ⟨j, _, rfl⟩ := m
  exact fin_at_set hc h (by simp [Cell.refs])
theorem take_ok {n p : Nat} {ns : List Int} (h : PL S n p ns) : ∃ x S1, 0 ≤ x ∧ x < 1000 ∧ Mv p S S1 ∧ callN Fs (k + 1) i_law_take [.ref n, .ref p] S = .ok (.int x) S1 := by
  obtain ⟨i, hi, hp⟩ := h.pl
  have hlt := h.lt
  rw [cl_law_take]
  by_cases hc : i < ns.length
  · obtain ⟨x, hx, ex⟩ := at_int (xs := ns) hi hc
    have hx2 := h.ok x hx
    refine ⟨x, S.set p (.lst [.int (i + 1)]), hx2.1, hx2.2, ⟨i + 1, by omega, rfl⟩, ?_⟩
    have e1 : istO (.int (i + 1)) (.ref p) (.int 0) [some (.ref n), some (.ref p)] S = .nx [some (.ref n), some (.ref p)] (S.set p (.lst [.int (i + 1)])) := istO_lst (j := 0) hp rfl
    have g1 : (S.set p (.lst [.int (i + 1)]))[p]? = some (.lst [.int (i + 1)]) := List.getElem?_set_self hlt
    have g2 : (S.set p (.lst [.int (i + 1)]))[n]? = some (.lst (ns.map D.int)) := by rw [List.getElem?_set_ne (Ne.symm h.ne)]; exact h.num
    have e2 : i + 1 - 1 = i := by omega
    simp [c_law_take, varR, hp, h.num, hc, e1, g1, g2, e2, ex]
    exact fin_set0 rfl (by simp [Cell.refs])
  · refine ⟨0, S, by decide, by decide, ⟨i, hi, (set_same hp).symm⟩, ?_⟩
    simp [c_law_take, varR, hp, h.num, hc]
theorem law_word_ok (v : Int) (b : Nat) (hv : 0 ≤ v) (hb : b ≤ 50) : ∃ w : List Int, w.length = b ∧ Bits w ∧ ∀ S, callN Fs (k + 1) i_law_word [.int v, .int b] S = .ok (wD w) S := by
  suffices h : ∀ (n : Nat) (v : Int), 0 ≤ v → ∀ w0 : List Int, Bits w0 → w0.length + n ≤ 60 → ∃ (w : List Int) (v' : Int), w.length = w0.length + n ∧ Bits w ∧ ∀ (ds : List D), ds.length = n → ∀ (o q : Option D) S, ∃ o', forL (ckS none) (fun x ρ S => (asgO (.var 3) x ρ S).seq (run (callN Fs k) b_law_word_1)) ds [some (.int v), q, some (wD w0), o] S = .nx [some (.int v'), q, some (wD w), o'] S by
    obtain ⟨w, v', h1, h2, h3⟩ := h b v hv [] (fun x hx => absurd hx List.not_mem_nil) (by simp; omega)
    refine ⟨w, by simpa using h1, h2, fun S => ?_⟩
    rw [cl_law_word]
    have hb2 : -4611686018427387904 ≤ (b : Int) ∧ (b : Int) < 4611686018427387904 := by omega
    obtain ⟨o', e⟩ := h3 (rngD 0 b) (by simp) none (some (.int b)) S
    unfold c_law_word
    rw [run_seq, show run (callN Fs k) (.asg (.var 2) (.tup .nil)) [some (.int v), some (.int b), none, none] S = .nx [some (.int v), some (.int b), some (wD []), none] S from by simp [linesz_is], seq_nx, run_seq, run_for,
      show itr (callN Fs k) (.rng (.cons (.var 1) .nil)) [some (.int v), some (.int b), some (wD []), none] S = .ok ⟨rngD 0 b, none⟩ S from by simp [varR, hb2], of_ok]
    simp only
    rw [e]
    simp [varR]
  intro n
  induction n with
  | zero =>
    intro v hv w0 h0 hl
    exact ⟨w0, v, rfl, h0, fun ds hd o q S => ⟨o, by rw [List.length_eq_zero_iff.mp hd]; rfl⟩⟩
  | succ n ih =>
    intro v hv w0 h0 hl
    have hb : Bits (v % 2 :: w0) := fun x hx => by
      rcases List.mem_cons.mp hx with rfl | hx
      · omega
      · exact h0 x hx
    obtain ⟨w, v', h1, h2, h3⟩ := ih (v / 2) (by omega) (v % 2 :: w0) hb (by simp; omega)
    refine ⟨w, v', by simp at h1; omega, h2, fun ds hd o q S => ?_⟩
    cases ds with
    | nil => cases hd
    | cons x ds =>
      obtain ⟨o', e⟩ := h3 ds (by simpa using hd) (some x) q S
      refine ⟨o', ?_⟩
      have hl3 : 1 + (w0.map D.int).length ≤ linesz := by rw [List.length_map]; unfold linesz; omega
      have ht : bin2 .add (.tup [.int (v % 2)]) (wD w0) S = .ok (wD (v % 2 :: w0)) S := b2_tcat (by simpa using hl3)
      have hbody : (asgO (.var 3) x [some (.int v), q, some (wD w0), o] S).seq (run (callN Fs k) b_law_word_1) = .nx [some (.int (v / 2)), q, some (wD (v % 2 :: w0)), some x] S := by
        simp [b_law_word_1, varR, linesz_is, ht]
      show (bif ckS none S then (match (asgO (.var 3) x [some (.int v), q, some (wD w0), o] S).seq (run (callN Fs k) b_law_word_1) with
        | .nx ρ' S' => forL (ckS none) _ ds ρ' S' | .ct ρ' S' => forL (ckS none) _ ds ρ' S' | .bk ρ' S' => .nx ρ' S' | o => o) else .bad) = _
      rw [hbody]
      exact e
/-- the law's words -/
theorem law_words_ok {b : Nat} (hb : b ≤ 3) : callN Fs (k + 1) i_law_words [.int b] S = .ok (.ref S.length) (S ++ [.lst ((WS b).map wD)]) := by
  rw [cl_law_words]
  obtain ⟨ρ1, S1, e1, m, T, o, p, q, rfl, rfl, h1⟩ := for_inv (ck := ckS none) (f := fun x ρ S => (asgO (.var 2) x ρ S).seq (run (callN Fs k) b_law_words_2)) (ds := rngD 0 b) (ρ := [some (.int b), some (.ref S.length), none, none, none]) (S := S ++ [.lst ((WS 0).map wD)])
    (fun j ρ' S' => ∃ m T o p q, ρ' = [some (.int b), some (.ref (S.length + m)), o, p, q] ∧ S' = S ++ T ∧ T[m]? = some (.lst ((WS j).map wD))) ⟨0, _, none, none, none, rfl, rfl, rfl⟩ (fun _ _ _ _ => rfl) (fun j x ρ' S' hj ⟨m, T, o, p, q, e1, e2, h1⟩ => by
      subst e1 e2
      obtain ⟨hj2, rfl⟩ := rng_at0 hj
      have hj3 : (WS j).length ≤ 8 := WS_le (by omega)
      have hm := (List.getElem?_eq_some_iff.mp h1).1
      have hg : ∀ c, (S ++ (T ++ c))[S.length + m]? = some (.lst ((WS j).map wD)) := fun c => by rw [getk, List.getElem?_append_left hm, h1]
      obtain ⟨ρ2, S2, e2, acc, o2, rfl, rfl, h2⟩ := for_inv (ck := ckS (some (S.length + m, .lst ((WS j).map wD)))) (f := fun x ρ S => (asgO (.var 4) x ρ S).seq (run (callN Fs k) b_law_words_1)) (ds := (WS j).map wD) (ρ := [some (.int b), some (.ref (S.length + m)), some (.int j), some (.ref (S.length + T.length)), q]) (S := S ++ (T ++ [.lst []]))
        (fun i ρ' S' => ∃ acc o, ρ' = [some (.int b), some (.ref (S.length + m)), some (.int j), some (.ref (S.length + T.length)), o] ∧ S' = S ++ (T ++ [.lst acc]) ∧ acc = (((WS j).take i).flatMap fun w => [w ++ [0], w ++ [1]]).map wD) ⟨[], q, rfl, rfl, rfl⟩ (fun i ρ' S' ⟨acc, o, e1, e2, _⟩ => by subst e2; simp only [ckS_some, hg, decide_true])
        (fun i x ρ' S' hi ⟨acc, o, e1, e2, h2⟩ => by
          subst e1 e2
          rw [List.getElem?_map] at hi
          cases hw : (WS j)[i]? with
          | none => rw [hw] at hi; cases hi
          | some w =>
            rw [hw] at hi
            cases hi
            have hwl := WS_wlen j w (List.mem_of_getElem? hw)
            have hl3 : (w.map D.int).length + 1 ≤ linesz := by rw [List.length_map, hwl]; unfold linesz; omega
            have ht : ∀ (y : Int) S, bin2 .add (wD w) (.tup [.int y]) S = .ok (wD (w ++ [y])) S := fun y S => by
              rw [show wD (w ++ [y]) = .tup (w.map D.int ++ [.int y]) from by simp [wD]]
              exact b2_tcat hl3
            have hacc : acc.length ≤ 200 := by
              rw [h2, List.length_map]
              have hh : ∀ l : List (List Int), (l.flatMap fun w => [w ++ [0], w ++ [1]]).length = 2 * l.length := fun l => by
                induction l with
                | nil => rfl
                | cons x l ih => simp [ih]; omega
              rw [hh, List.length_take]; omega
            have ha1 : acc.length < 16777216 := by omega
            have ha2 : acc.length + 1 < 16777216 := by omega
            have hTT : ∀ l : List Cell, (S ++ (T ++ l)).length = S.length + (T.length + l.length) := fun l => by simp
            have gT : ∀ acc, (S ++ (T ++ [Cell.lst acc]))[S.length + T.length]? = some (.lst acc) := fun acc => by rw [getk]; simp
            have sT : ∀ acc acc', (S ++ (T ++ [Cell.lst acc])).set (S.length + T.length) (.lst acc') = S ++ (T ++ [.lst acc']) := fun acc acc' => by rw [setk]; simp
            refine ⟨[some (.int b), some (.ref (S.length + m)), some (.int j), some (.ref (S.length + T.length)), some (wD w)], S ++ (T ++ [.lst (acc ++ [wD (w ++ [0])] ++ [wD (w ++ [1])])]), ?_, _, some (wD w), rfl, rfl, ?_⟩
            · simp [b_law_words_1, varR, linesz_is, ht, gT, sT, ha1, ha2]
            · rw [h2, List.take_succ, hw, Option.toList_some, List.flatMap_append, List.map_append]
              simp)
      rw [List.length_map, List.take_length] at h2
      refine ⟨[some (.int b), some (.ref (S.length + T.length)), some (.int j), some (.ref (S.length + T.length)), o2], S ++ (T ++ [.lst acc]), ?_, T.length, T ++ [.lst acc], some (.int j), some (.ref (S.length + T.length)), o2, rfl, rfl, by simp [h2, WS]⟩
      simp only [asgO_var, List.set_cons_succ, List.set_cons_zero, seq_nx]
      unfold b_law_words_2
      rw [run_seq, show run (callN Fs k) (.asg (.var 3) (.lst .nil)) [some (.int b), some (.ref (S.length + m)), some (.int j), p, q] (S ++ T) = .nx [some (.int b), some (.ref (S.length + m)), some (.int j), some (.ref (S.length + T.length)), q] (S ++ (T ++ [.lst []])) from by simp [linesz_is],
        seq_nx, run_seq, run_for, show itr (callN Fs k) (.var 1) [some (.int b), some (.ref (S.length + m)), some (.int j), some (.ref (S.length + T.length)), q] (S ++ (T ++ [.lst []])) = .ok ⟨(WS j).map wD, some (S.length + m, .lst ((WS j).map wD))⟩ (S ++ (T ++ [.lst []])) from by simp [varR, hg], of_ok]
      simp only
      rw [e2, seq_nx]
      simp [varR])
  rw [rng_len] at h1
  have hb2 : -4611686018427387904 ≤ (b : Int) ∧ (b : Int) < 4611686018427387904 := by omega
  unfold c_law_words
  rw [run_seq, show run (callN Fs k) (.asg (.var 1) (.lst (.cons (.tup .nil) .nil))) [some (.int b), none, none, none, none] S = .nx [some (.int b), some (.ref S.length), none, none, none] (S ++ [.lst ((WS 0).map wD)]) from by simp [linesz_is, WS], seq_nx, run_seq, run_for,
    show itr (callN Fs k) (.rng (.cons (.var 0) .nil)) [some (.int b), some (.ref S.length), none, none, none] (S ++ [.lst ((WS 0).map wD)]) = .ok ⟨rngD 0 b, none⟩ (S ++ [.lst ((WS 0).map wD)]) from by simp [varR, hb2], of_ok]
  simp only
  rw [e1]
  simp [varR]
  refine fin_at h1 ?_
  exact refs_words _
end
end Lw

set_option Elab.async false
set_option linter.all false
set_option maxRecDepth 100000
set_option maxHeartbeats 400000
namespace Lw
open PySem L2 Ng
section
variable {P : Nat → List D → Store → R D} {S : Store}
abbrev nl (ds : List Int) : Cell := .lst (ds.map D.int)
theorem num1 {s a j q : Option D} {n : Nat} {c many : Int} {ds : List Int} (h : S[n]? = some (nl ds)) (hl : ds.length < 1000000) :
    run P b_law_numbers_1 [s, some (.int many), some (.ref n), a, some (.int c), j, q] S = if 0 < c ∧ (ds.length : Int) < many then .nx [s, some (.int many), some (.ref n), a, some (.int (c / 1000)), j, q] (S.set n (nl (ds ++ [c % 1000]))) else .nx [s, some (.int many), some (.ref n), a, some (.int c), j, q] S := by
  have hl2 : ds.length < 16777216 := by omega
  by_cases hn : 0 < c
  · by_cases hm : (ds.length : Int) < many
    · simp [b_law_numbers_1, varR, linesz_is, hn, hm, h, hl2, nl]
    · simp [b_law_numbers_1, varR, hn, hm, h, nl]
  · simp [b_law_numbers_1, varR, hn]
theorem num2 {s m : Option D} {q : Option D} {n : Nat} {c a j : Int} {ds : List Int} (h : S[n]? = some (nl ds)) (hl : ds.length < 1000000) :
    ∃ x q', 0 ≤ x ∧ x < 1000 ∧ run P b_law_numbers_2 [s, m, some (.ref n), some (.int a), some (.int c), some (.int j), q] S = .nx [s, m, some (.ref n), some (.int a), some (.int c), some (.int j), q'] (S.set n (nl (ds ++ [x]))) := by
  have hl2 : ds.length < 16777216 := by omega
  generalize hy : (c * 48271 + a * 69621 + j * 16807 + 11) % 2147483647 = y
  have hy1 : 0 ≤ y ∧ y < 2147483647 := by rw [← hy]; exact ⟨Int.emod_nonneg _ (by decide), Int.emod_lt_of_pos _ (by decide)⟩
  have hy2 : -18446744073709551616 < y := by omega
  have hy3 : y < 18446744073709551616 := by omega
  refine ⟨(y * y + j) % 2147483629 / 7 % 1000, some (.int ((y * y + j) % 2147483629)), by omega, by omega, ?_⟩
  simp [b_law_numbers_2, varR, linesz_is, hy, hy2, hy3, h, hl2, nl]
/-- one cell of the script -/
theorem num3 {r n : Nat} {many : Int} {j c q : Option D} {a : Int} {ns ds : List Int} {z : Int} (hr : S[r]? = some (.ro (ns.map D.int))) (ha : ∀ S, atR (ns.map D.int) a S = .ok (.int z) S) (h : S[n]? = some (nl ds)) (hl : ds.length < 900000) (hd : NumOk ds) :
    ∃ c' j' q' ds', run P b_law_numbers_3 [some (.ref r), some (.int many), some (.ref n), some (.int a), c, j, q] S = .nx [some (.ref r), some (.int many), some (.ref n), some (.int a), c', j', q'] (S.set n (nl ds')) ∧ NumOk ds' ∧ ds'.length ≤ ds.length + 60 := by
  have hn := (List.getElem?_eq_some_iff.mp h).1
  generalize hx : (if z < 0 then -z else z) = x
  by_cases hb : 1000000000000000000 ≤ x
  · obtain ⟨ρ', S', e, c', j', ds', rfl, rfl, h1, h2⟩ := for_inv (ck := ckS none) (f := fun x ρ S => run P b_law_numbers_1 (ρ.set 5 (some x)) S) (ds := rngD 0 60) (ρ := [some (.ref r), some (.int many), some (.ref n), some (.int a), some (.int x), j, q]) (S := S)
      (fun i ρ' S' => ∃ c' j' ds', ρ' = [some (.ref r), some (.int many), some (.ref n), some (.int a), some (.int c'), j', q] ∧ S' = S.set n (nl ds') ∧ NumOk ds' ∧ ds'.length ≤ ds.length + i)
      ⟨x, j, ds, rfl, (set_same h).symm, hd, Nat.le_refl _⟩ (fun _ _ _ _ => rfl) (fun i y ρ1 S1 hi ⟨c', j', ds', e1, e2, h1, h2⟩ => by
        subst e1 e2
        have hi2 := (rng_at hi).1
        have hg : (S.set n (nl ds'))[n]? = some (nl ds') := by rw [List.getElem?_set_self hn]
        simp only [List.set_cons_succ, List.set_cons_zero]
        rw [num1 hg (by omega)]
        by_cases hp : 0 < c' ∧ (ds'.length : Int) < many
        · rw [if_pos hp]
          exact ⟨_, _, rfl, _, some y, _, rfl, by rw [List.set_set], h1.snoc (Int.emod_nonneg _ (by decide)) (Int.emod_lt_of_pos _ (by decide)), by simp; omega⟩
        · rw [if_neg hp]
          exact ⟨_, _, rfl, _, some y, _, rfl, rfl, h1, by omega⟩)
    refine ⟨some (.int c'), j', q, ds', ?_, h1, by simpa using h2⟩
    simp [b_law_numbers_3, varR, hr, ha, hx, hb]
    rw [e]
    simp
  · obtain ⟨ρ', S', e, j', q', ds', rfl, rfl, h1, h2⟩ := for_inv (ck := ckS none) (f := fun x ρ S => run P b_law_numbers_2 (ρ.set 5 (some x)) S) (ds := rngD 0 5) (ρ := [some (.ref r), some (.int many), some (.ref n), some (.int a), some (.int x), j, q]) (S := S)
      (fun i ρ' S' => ∃ j' q' ds', ρ' = [some (.ref r), some (.int many), some (.ref n), some (.int a), some (.int x), j', q'] ∧ S' = S.set n (nl ds') ∧ NumOk ds' ∧ ds'.length ≤ ds.length + i)
      ⟨j, q, ds, rfl, (set_same h).symm, hd, Nat.le_refl _⟩ (fun _ _ _ _ => rfl) (fun i y ρ1 S1 hi ⟨j', q', ds', e1, e2, h1, h2⟩ => by
        subst e1 e2
        obtain ⟨hi2, rfl⟩ := rng_at0 hi
        have hg : (S.set n (nl ds'))[n]? = some (nl ds') := by rw [List.getElem?_set_self hn]
        obtain ⟨y, q2, y0, y1, e⟩ := num2 (P := P) (s := some (.ref r)) (m := some (.int many)) (q := q') (c := x) (a := a) (j := (i : Int)) hg (by omega)
        exact ⟨_, _, e, some (.int i), q2, _, rfl, by rw [List.set_set], h1.snoc y0 y1, by simp; omega⟩)
    refine ⟨some (.int x), j', q', ds', ?_, h1, by rw [rng_len] at h2; omega⟩
    simp [b_law_numbers_3, varR, hr, ha, hx, hb]
    rw [e]
    simp
theorem numbers_ok {k r : Nat} {ns : List Int} (hS : S[r]? = some (.ro (ns.map D.int))) (hn : ns.length ≤ 63) (many : Nat) (hm : many ≤ 1000) :
    ∃ ds : List Int, NumOk ds ∧ callN Fs (k + 1) i_law_numbers [.ref r, .int many] S = .ok (.ref S.length) (S ++ [nl ds]) := by
  rw [cl_law_numbers]
  have hr : r < S.length := (List.getElem?_eq_some_iff.mp hS).1
  obtain ⟨ρ1, S1, e1, ds1, a1, c1, j1, q1, rfl, rfl, h1, h2⟩ := for_inv (ck := ckS none) (f := fun x ρ S => (asgO (.var 3) x ρ S).seq (run (callN Fs k) b_law_numbers_3)) (ds := rngD 0 ns.length) (ρ := [some (.ref r), some (.int many), some (.ref S.length), none, none, none, none]) (S := S ++ [nl []])
    (fun j ρ' S' => ∃ ds a c i q, ρ' = [some (.ref r), some (.int many), some (.ref S.length), a, c, i, q] ∧ S' = S ++ [nl ds] ∧ NumOk ds ∧ ds.length ≤ 60 * j)
    ⟨[], none, none, none, none, rfl, rfl, (fun _ h => absurd h List.not_mem_nil), Nat.le_refl _⟩ (fun _ _ _ _ => rfl)
    (fun j x ρ' S' hj ⟨ds, a, c, i, q, e1, e2, h1, h2⟩ => by
      subst e1 e2
      obtain ⟨hj2, rfl⟩ := rng_at0 hj
      have hz : (ns.map D.int)[j]? = some (.int ns[j]) := by rw [List.getElem?_map, List.getElem?_eq_getElem hj2]; rfl
      obtain ⟨c', j', q', ds', e, h3, h4⟩ := num3 (P := callN Fs k) (S := S ++ [nl ds]) (r := r) (n := S.length) (many := many) (j := i) (c := c) (q := q) (a := (j : Int)) (ns := ns) (ds := ds) (z := ns[j]) (get_lo hS) (fun S => atR_nat hz) (by simp) (by omega) h1
      refine ⟨[some (.ref r), some (.int many), some (.ref S.length), some (.int j), c', j', q'], S ++ [nl ds'], ?_, ds', some (.int j), c', j', q', rfl, rfl, h3, by omega⟩
      simp only [asgO_var, List.set_cons_succ, List.set_cons_zero, seq_nx]
      rw [e]
      simp)
  have hlen : -4611686018427387904 ≤ (ns.length : Int) ∧ (ns.length : Int) < 4611686018427387904 := by omega
  refine ⟨ds1.take many, fun d hd => h1 d (List.mem_of_mem_take hd), ?_⟩
  unfold c_law_numbers
  rw [run_seq, show run (callN Fs k) (.asg (.var 2) (.lst .nil)) [some (.ref r), some (.int many), none, none, none, none, none] S = .nx [some (.ref r), some (.int many), some (.ref S.length), none, none, none, none] (S ++ [nl []]) from by simp [linesz_is, nl], seq_nx, run_seq, run_for,
    show itr (callN Fs k) (.rng (.cons (.bi .len (.cons (.var 0) .nil)) .nil)) [some (.ref r), some (.int many), some (.ref S.length), none, none, none, none] (S ++ [nl []]) = .ok ⟨rngD 0 ns.length, none⟩ (S ++ [nl []]) from by
      have := get_lo (l := [nl []]) hS
      simp [varR, this, hlen], of_ok]
  simp only
  rw [e1]
  have hc : cutD (ds1.map D.int) none (some (many : Int)) = (ds1.map D.int).take many := by rw [cut_to']
  simp [varR, hc, nl]
  exact fin_at (i := 1) (ds := (ds1.map D.int).take many) rfl (by rw [← List.map_take]; exact refsL_ints _)
end
end Lw

set_option Elab.async false
set_option linter.all false
set_option maxRecDepth 100000
set_option maxHeartbeats 400000
namespace Lw
open PySem L2 Ng
/-! rows, input words -/
abbrev rowD (r : Int × List Int) : D := .tup [.int r.1, wD r.2]
def RowOk (n : Int) (o : Nat) (r : Int × List Int) : Prop := 0 ≤ r.1 ∧ r.1 < n ∧ r.2.length = o ∧ Bits r.2
theorem nb_rows : ∀ l : List (Int × List Int), nbDs (l.map rowD) = true
  | [] => rfl
  | v :: l => by simp [nbDs, nbD, nb_ints v.2, nb_rows l]
theorem refs_rows (l : List (Int × List Int)) : D.refsL (l.map rowD) = [] := pures_refs (nbs_pure (nb_rows l))
theorem bits_zero (n : Nat) : Bits (List.replicate n 0) := fun x hx => .inl (List.eq_of_mem_replicate hx)
section
variable {k : Nat} {S : Store}
theorem zero_mul {o : Nat} (h1 : 1 ≤ o) (h2 : o ≤ 3) : bin2 .mul (.tup [.int 0]) (.int o) S = .ok (wD (List.replicate o 0)) S := by
  match o, h1, h2 with
  | 1, _, _ => rfl
  | 2, _, _ => rfl
  | 3, _, _ => rfl
theorem rows_ok {n p : Nat} {ns : List Int} (h : PL S n p ns) {st : Int} (hst : 1 ≤ st ∧ st ≤ 8) {ni no : Nat} (hni : ni ≤ 3) (hno : 1 ≤ no ∧ no ≤ 3) :
    ∃ (rows : List (Int × List Int)) (S1 : Store), Mv p S S1 ∧ (rows.length : Int) = st * 2 ^ ni ∧ (∀ r ∈ rows, RowOk st no r) ∧ callN Fs (k + 2) i_law_rows [.ref n, .ref p, .int st, .int ni, .int no] S = .ok (.ref S.length) (S1 ++ [.lst (rows.map rowD)]) := by
  rw [cl_law_rows]
  have hL : ((WS ni).length : Int) = 2 ^ ni := by rw [WS_len]; simp
  have hL8 := WS_le hni
  have hO8 := WS_le hno.2
  have hO1 : 1 ≤ (WS no).length := by rw [WS_len]; exact Nat.pos_of_ne_zero (by simp)
  have tw : ∀ S, callN Fs (k + 1) i_law_words [.int ni] S = .ok (.ref S.length) (S ++ [.lst ((WS ni).map wD)]) := fun S => law_words_ok hni
  have tw2 : ∀ S, callN Fs (k + 1) i_law_words [.int no] S = .ok (.ref S.length) (S ++ [.lst ((WS no).map wD)]) := fun S => law_words_ok hno.2
  -- the style
  obtain ⟨x0, S0, x00, x01, m0, e0⟩ := take_ok (k := k) (h.app [.lst []])
  obtain ⟨S00, m00, rfl⟩ := Mv.app h.lt m0
  have hst0 : 0 ≤ x0 % 4 := by omega
  generalize hstyle : x0 % 4 = style at *
  have hu : 0 ≤ style % 2 ∧ style % 2 < 2 := by omega
  have hu1 : -18446744073709551616 < style % 2 := by omega
  have hu2 : style % 2 < 18446744073709551616 := by omega
  have st1 : -18446744073709551616 < st := by omega
  have st2 : st < 18446744073709551616 := by omega
  have hlen8 : -4611686018427387904 ≤ st * 8 ∧ st * 8 < 4611686018427387904 := by omega
  have hstL : st * ((WS ni).length : Int) ≤ st * 8 := Int.mul_le_mul_of_nonneg_left (by omega) (by omega)
  obtain ⟨ρ1, S1, e1, rows, S2, T, a, b, c, q, rfl, m2, rfl, h1, h2⟩ := for_inv (ck := ckS none) (f := fun x ρ S => (asgO (.var 7) x ρ S).seq (run (callN Fs (k + 1)) b_law_rows_1)) (ds := rngD 0 (st * 8).toNat) (ρ := [some (.ref n), some (.ref p), some (.int st), some (.int ni), some (.int no), some (.ref S.length), some (.int style), none, none, none, none]) (S := S00 ++ [.lst []])
    (fun j ρ' S' => ∃ (rows : List (Int × List Int)) (S1 : Store) (T : List Cell) (a b c q : Option D), ρ' = [some (.ref n), some (.ref p), some (.int st), some (.int ni), some (.int no), some (.ref S.length), some (.int style), q, a, b, c] ∧ Mv p S S1 ∧ S' = S1 ++ (.lst (rows.map rowD) :: T) ∧ (rows.length : Int) = min (j : Int) (st * (WS ni).length) ∧ ∀ r ∈ rows, RowOk st no r)
    ⟨[], S00, [], none, none, none, none, rfl, m00, rfl, by have : 0 ≤ st * ((WS ni).length : Int) := Int.mul_nonneg (by omega) (by omega); simp; omega, (fun _ h => absurd h List.not_mem_nil)⟩ (fun _ _ _ _ => rfl)
    (fun j x ρ' S' hj ⟨rows, S1, T, a, b, c, q, e1, m1, e2, h1, h2⟩ => by
      subst e1 e2
      obtain ⟨hj2, rfl⟩ := rng_at0 hj
      have hj3 : (j : Int) < st * 8 := by omega
      simp only [asgO_var, List.set_cons_succ, List.set_cons_zero, seq_nx]
      have hS1 := m1.len
      have hc : tst (callN Fs (k + 1)) (.cmp .lt (.var 7) (.bin .mul (.var 2) (.bi .len (.cons (.call i_law_words (.cons (.var 3) .nil)) .nil)))) [some (.ref n), some (.ref p), some (.int st), some (.int ni), some (.int no), some (.ref S.length), some (.int style), some (.int j), a, b, c] (S1 ++ (.lst (rows.map rowD) :: T)) =
          .ok (decide ((j : Int) < st * (WS ni).length)) (S1 ++ (.lst (rows.map rowD) :: T) ++ [.lst ((WS ni).map wD)]) := by
        simp [varR, tw, st1, st2]
      unfold b_law_rows_1
      rw [run_seq, run_ite, hc, of_ok]
      by_cases hlt : (j : Int) < st * (WS ni).length
      · rw [decide_eq_true hlt, cond_true]
        have hpl : PL (S1 ++ (.lst (rows.map rowD) :: T) ++ [.lst ((WS ni).map wD)]) n p ns := ((h.mv m1).app _).app _
        obtain ⟨x, S3, x1, x2, m3, e3⟩ := take_ok (k := k) hpl
        rw [List.append_assoc] at m3 e3
        obtain ⟨S4, m4, rfl⟩ := Mv.app (h.mv m1).lt m3
        have hS4 : S4.length = S.length := by rw [m4.len, hS1]
        generalize hl3 : (.lst (rows.map rowD) :: T) ++ [Cell.lst ((WS ni).map wD)] = l3 at *
        generalize hx : x + 7 * (j : Int) * (style % 2) = y
        have hy : 0 ≤ y := by
          rw [← hx]
          have : 0 ≤ 7 * (j : Int) * (style % 2) := Int.mul_nonneg (by omega) hu.1
          omega
        have a1 : run (callN Fs (k + 1)) (.asg (.var 8) (.bin .add (.call i_law_take (.cons (.var 0) (.cons (.var 1) .nil))) (.bin .mul (.bin .mul (.int 7) (.var 7)) (.bin .mod (.var 6) (.int 2))))) [some (.ref n), some (.ref p), some (.int st), some (.int ni), some (.int no), some (.ref S.length), some (.int style), some (.int j), a, b, c] (S1 ++ l3) =
            .nx [some (.ref n), some (.ref p), some (.int st), some (.int ni), some (.int no), some (.ref S.length), some (.int style), some (.int j), some (.int y), b, c] (S4 ++ l3) := by
          simp [varR, e3, hu1, hu2, hx]
        have st0 : 0 < st := by omega
        have a2 : run (callN Fs (k + 1)) (.asg (.var 9) (.bin .mod (.var 8) (.var 2))) [some (.ref n), some (.ref p), some (.int st), some (.int ni), some (.int no), some (.ref S.length), some (.int style), some (.int j), some (.int y), b, c] (S4 ++ l3) =
            .nx [some (.ref n), some (.ref p), some (.int st), some (.int ni), some (.int no), some (.ref S.length), some (.int style), some (.int j), some (.int y), some (.int (y % st)), c] (S4 ++ l3) := by
          simp [varR, st0]
        have lo : 0 < ((WS no).length : Int) := by omega
        obtain ⟨w, hw1, hw2, hw3⟩ := law_word_ok (k := k) (y / 8 % ((WS no).length : Int)) no (Int.emod_nonneg _ (by omega)) (by omega)
        have a3 : run (callN Fs (k + 1)) (.asg (.var 10) (.call i_law_word (.cons (.bin .mod (.bin .fdiv (.var 8) (.int 8)) (.bi .len (.cons (.call i_law_words (.cons (.var 4) .nil)) .nil))) (.cons (.var 4) .nil)))) [some (.ref n), some (.ref p), some (.int st), some (.int ni), some (.int no), some (.ref S.length), some (.int style), some (.int j), some (.int y), some (.int (y % st)), c] (S4 ++ l3) =
            .nx [some (.ref n), some (.ref p), some (.int st), some (.int ni), some (.int no), some (.ref S.length), some (.int style), some (.int j), some (.int y), some (.int (y % st)), some (wD w)] (S4 ++ (l3 ++ [.lst ((WS no).map wD)])) := by
          have lo2 : 0 < (WS no).length := by omega
          simp [varR, tw2, lo2, hw3]
        have a4 : ∃ af ou, RowOk st no (af, ou) ∧ run (callN Fs (k + 1)) (.ite (.and (.cmp .eq (.var 6) (.int 2)) (.cmp .eq (.bin .mod (.bin .fdiv (.var 8) (.int 64)) (.int 2)) (.int 0))) (.seq (.asg (.var 10) (.bin .mul (.tup (.cons (.int 0) .nil)) (.var 4)))
    (.seq (.asg (.var 9) (.int 0))
    .skip)) .skip) [some (.ref n), some (.ref p), some (.int st), some (.int ni), some (.int no), some (.ref S.length), some (.int style), some (.int j), some (.int y), some (.int (y % st)), some (wD w)] (S4 ++ (l3 ++ [.lst ((WS no).map wD)])) =
            .nx [some (.ref n), some (.ref p), some (.int st), some (.int ni), some (.int no), some (.ref S.length), some (.int style), some (.int j), some (.int y), some (.int af), some (wD ou)] (S4 ++ (l3 ++ [.lst ((WS no).map wD)])) := by
          have hdef : RowOk st no (y % st, w) := ⟨Int.emod_nonneg _ (by omega), Int.emod_lt_of_pos _ st0, hw1, hw2⟩
          have zm := fun S => zero_mul (S := S) hno.1 hno.2
          by_cases hs2 : style = 2
          · by_cases hz : y / 64 % 2 = 0
            · exact ⟨0, List.replicate no 0, ⟨Int.le_refl 0, st0, by simp, bits_zero no⟩, by simp [varR, hs2, hz, linesz_is, zm]⟩
            · exact ⟨y % st, w, hdef, by simp [varR, hs2, hz]⟩
          · exact ⟨y % st, w, hdef, by simp [varR, hs2]⟩
        obtain ⟨af, ou, hrow, a4⟩ := a4
        have g5 : ∀ l, (S4 ++ (l3 ++ l))[S.length]? = some (.lst (rows.map rowD)) := fun l => by
          rw [← hS4, get0, ← hl3]; rfl
        have hrl : rows.length < 16777216 := by omega
        have s5 : (S4 ++ (l3 ++ [Cell.lst ((WS no).map wD)])).set S.length (.lst (rows.map rowD ++ [rowD (af, ou)])) = S4 ++ (.lst ((rows ++ [(af, ou)]).map rowD) :: (T ++ [.lst ((WS ni).map wD), .lst ((WS no).map wD)])) := by
          rw [← hS4, set0, ← hl3]; simp
        have a5 : run (callN Fs (k + 1)) (.ex (.me .append (.var 5) (.cons (.tup (.cons (.var 9) (.cons (.var 10) .nil))) .nil))) [some (.ref n), some (.ref p), some (.int st), some (.int ni), some (.int no), some (.ref S.length), some (.int style), some (.int j), some (.int y), some (.int af), some (wD ou)] (S4 ++ (l3 ++ [.lst ((WS no).map wD)])) =
            .nx [some (.ref n), some (.ref p), some (.int st), some (.int ni), some (.int no), some (.ref S.length), some (.int style), some (.int j), some (.int y), some (.int af), some (wD ou)] (S4 ++ (.lst ((rows ++ [(af, ou)]).map rowD) :: (T ++ [.lst ((WS ni).map wD), .lst ((WS no).map wD)]))) := by
          rw [← s5]
          simp [varR, linesz_is, g5, hrl]
        rw [show S1 ++ (.lst (rows.map rowD) :: T) ++ [Cell.lst ((WS ni).map wD)] = S1 ++ l3 from by rw [← hl3]; simp]
        refine ⟨_, _, by rw [run_seq, a1, seq_nx, run_seq, a2, seq_nx, run_seq, a3, seq_nx, run_seq, a4, seq_nx, run_seq, a5, seq_nx, run_skip, seq_nx, run_skip], rows ++ [(af, ou)], S4, T ++ [.lst ((WS ni).map wD), .lst ((WS no).map wD)], _, _, _, _, rfl, m1.trans m4, rfl, by simp; omega, fun r hr => ?_⟩
        rcases List.mem_append.mp hr with hr | hr
        · exact h2 r hr
        · simp at hr; subst hr; exact hrow
      · rw [decide_eq_false hlt, cond_false, run_skip, seq_nx, run_skip]
        exact ⟨_, _, rfl, rows, S1, T ++ [.lst ((WS ni).map wD)], a, b, c, _, rfl, m1, by simp, by omega, h2⟩)
  rw [rng_len] at h1
  refine ⟨rows, S2, m2, ?_, h2, ?_⟩
  · rw [← hL]; omega
  · have b1 : run (callN Fs (k + 1)) (.asg (.var 5) (.lst .nil)) [some (.ref n), some (.ref p), some (.int st), some (.int ni), some (.int no), none, none, none, none, none, none] S = .nx [some (.ref n), some (.ref p), some (.int st), some (.int ni), some (.int no), some (.ref S.length), none, none, none, none, none] (S ++ [.lst []]) := by simp [linesz_is]
    have b2 : run (callN Fs (k + 1)) (.asg (.var 6) (.bin .mod (.call i_law_take (.cons (.var 0) (.cons (.var 1) .nil))) (.int 4))) [some (.ref n), some (.ref p), some (.int st), some (.int ni), some (.int no), some (.ref S.length), none, none, none, none, none] (S ++ [.lst []]) = .nx [some (.ref n), some (.ref p), some (.int st), some (.int ni), some (.int no), some (.ref S.length), some (.int style), none, none, none, none] (S00 ++ [.lst []]) := by
      simp [varR, e0, hstyle]
    have b3 : itr (callN Fs (k + 1)) (.rng (.cons (.bin .mul (.var 2) (.bin .pow (.int 2) (.int 3))) .nil)) [some (.ref n), some (.ref p), some (.int st), some (.int ni), some (.int no), some (.ref S.length), some (.int style), none, none, none, none] (S00 ++ [.lst []]) = .ok ⟨rngD 0 (st * 8).toNat, none⟩ (S00 ++ [.lst []]) := by
      simp [varR, hlen8]
    unfold c_law_rows
    rw [run_seq, b1, seq_nx, run_seq, b2, seq_nx, run_seq, run_for, b3, of_ok]
    simp only
    rw [e1]
    simp [varR]
    have := fin_mv_at (S := S) (i := 0) (cs := .lst (rows.map rowD) :: T) m2 rfl (refs_rows rows)
    simpa using this
end
end Lw

set_option Elab.async false
set_option linter.all false
set_option maxRecDepth 100000
set_option maxHeartbeats 400000
namespace Lw
open PySem L2 Ng
/-! machines -/
abbrev mF (st : Int) (ni no r : Nat) : List (Str × D) := [("states", .int st), ("inputs", .int ni), ("outputs", .int no), ("_rows", .ref r)]
/-- the machine's instance and its rows -/
structure MachAt (S : Store) (m : Nat) (st : Int) (ni no : Nat) (rows : List (Int × List Int)) : Prop where
  at_ : ∃ r, S[m]? = some (.ins "Machine" (mF st ni no r)) ∧ S[r]? = some (.lst (rows.map rowD))
theorem MachAt.app {S : Store} {m : Nat} {st : Int} {ni no : Nat} {rows : List (Int × List Int)} (h : MachAt S m st ni no rows) (l : List Cell) : MachAt (S ++ l) m st ni no rows := by
  obtain ⟨r, h1, h2⟩ := h.at_
  exact ⟨r, get_lo h1, get_lo h2⟩
/-- a right machine's numbers and rows -/
structure MOk (st : Int) (ni no : Nat) (rows : List (Int × List Int)) : Prop where
  hst : 1 ≤ st ∧ st ≤ 8
  hni : ni ≤ 3
  hno : 1 ≤ no ∧ no ≤ 3
  hlen : (rows.length : Int) = st * 2 ^ ni
  hok : ∀ r ∈ rows, RowOk st no r
def stepR (rows : List (Int × List Int)) (ni : Nat) (s : Int) (w : List Int) : Int × List Int := rows.getD (s * 2 ^ ni + val w).toNat (0, [])
theorem step_at {st : Int} {ni no : Nat} {rows : List (Int × List Int)} (M : MOk st ni no rows) {s : Int} {w : List Int} (hs : 0 ≤ s ∧ s < st) (hw : w.length = ni ∧ Bits w) :
    0 ≤ s * 2 ^ ni + val w ∧ rows[(s * 2 ^ ni + val w).toNat]? = some (stepR rows ni s w) ∧ RowOk st no (stepR rows ni s w) := by
  have hv := val_bd hw.2
  rw [hw.1] at hv
  have hp : (0 : Int) ≤ 2 ^ ni := Int.pow_nonneg (by decide)
  have h0 : 0 ≤ s * 2 ^ ni := Int.mul_nonneg hs.1 hp
  have h1 : (s + 1) * 2 ^ ni ≤ st * 2 ^ ni := Int.mul_le_mul_of_nonneg_right (by omega) hp
  rw [Int.add_mul, Int.one_mul] at h1
  have hlt : (s * 2 ^ ni + val w).toNat < rows.length := by have := M.hlen; omega
  have e : rows[(s * 2 ^ ni + val w).toNat]? = some (stepR rows ni s w) := by
    unfold stepR
    rw [List.getD_eq_getElem?_getD, List.getElem?_eq_getElem hlt]; rfl
  exact ⟨by omega, e, M.hok _ (List.mem_of_getElem? e)⟩
def outsF (rows : List (Int × List Int)) (ni : Nat) : Int → List (List Int) → List (List Int)
  | _, [] => []
  | s, w :: ws => (stepR rows ni s w).2 :: outsF rows ni (stepR rows ni s w).1 ws
def stsF (rows : List (Int × List Int)) (ni : Nat) : Int → List (List Int) → List Int
  | _, [] => []
  | s, w :: ws => (stepR rows ni s w).1 :: stsF rows ni (stepR rows ni s w).1 ws
def WsOk (ni : Nat) (ws : List (List Int)) : Prop := ∀ w ∈ ws, w.length = ni ∧ Bits w
theorem fin_mach {S : Store} {st : Int} {ni no : Nat} {W : Cell} {ds : List D} (h : D.refsL ds = []) : fin (S ++ [.ins "Machine" []]) .non (S ++ [.ins "Machine" (mF st ni no (S.length + 2)), W, .lst ds]) = .ok .non (S ++ [.ins "Machine" (mF st ni no (S.length + 1)), .lst ds]) := by
  have hc : ∀ S : Store, ∀ l e, chg (S ++ [.ins "Machine" []]) (S ++ (.ins "Machine" (mF st ni no e)) :: l) = [e] := fun S l e => by
    induction S with
    | nil => simp [chg, mF, Cell.refs, D.refs]
    | cons c S ih => simp only [List.cons_append, chg, if_true, ih, List.nil_append]
  have hk : ∀ (f : Nat → Nat) (S : Store) l e, keepE f (S ++ [.ins "Machine" []]) (S ++ (.ins "Machine" (mF st ni no e)) :: l) = S ++ [.ins "Machine" (mF st ni no (f e))] := fun f S l e => by
    induction S with
    | nil => simp [keepE, mF, Cell.ren, D.renL, D.ren]
    | cons c S ih => simp only [List.cons_append, keepE, if_true, ih]
  have hg : (S ++ [Cell.ins "Machine" (mF st ni no (S.length + 2)), W, .lst ds])[S.length + 2]? = some (.lst ds) := by simp
  have hr : reach (S ++ [Cell.ins "Machine" (mF st ni no (S.length + 2)), W, .lst ds]) (S ++ [Cell.ins "Machine" []]).length 100000 ([] ++ [S.length + 2]) [] = [S.length + 2] := by
    rw [List.nil_append, show (100000 : Nat) = 99999 + 1 from rfl, reach_step hg (by simp) (by simp)]
    show reach _ _ _ (D.refsL ds ++ []) _ = _
    rw [h, List.append_nil, reach_nil, List.nil_append]
  unfold fin
  simp only [refs_non, hc, hr]
  rw [if_pos ?_]
  · unfold keepS
    rw [hk]
    simp only [List.filterMap_cons, hg, Option.map_some, List.filterMap_nil, D.ren, Cell.ren]
    rw [D.renL_id ds fun n hn => by rw [h] at hn; cases hn]
    simp [renOf]
  · unfold keepC
    simp only [List.flatMap_cons, List.flatMap_nil, hg, Cell.refs, h]
    simp
section
variable {k : Nat} {S : Store}
theorem init_ok {g : Nat} {st : Int} {ni no : Nat} {rows : List (Int × List Int)} (M : MOk st ni no rows) (hg : S[g]? = some (.lst (rows.map rowD))) :
    callN Fs (k + 3) i_Machine_init [.ref S.length, .int st, .int ni, .int no, .ref g] (S ++ [.ins "Machine" []]) = .ok .non (S ++ [.ins "Machine" (mF st ni no (S.length + 1)), .lst (rows.map rowD)]) := by
  rw [cl_Machine_init]
  have hst := M.hst; have hni := M.hni; have hno := M.hno
  have i1 := fun S => isint_yes (k := k + 1) (S := S) (i := st) (lo := 1) (hi := 8) hst.1 hst.2
  have i2 := fun S => isint_yes (k := k + 1) (S := S) (i := ni) (lo := 0) (hi := 3) (by omega) (by omega)
  have i3 := fun S => isint_yes (k := k + 1) (S := S) (i := no) (lo := 1) (hi := 3) (by omega) (by omega)
  have tw : ∀ S, callN Fs (k + 2) i_words [.int ni] S = .ok (.ref S.length) (S ++ [.lst ((WS ni).map wD)]) := fun S => words_ok hni
  have st1 : -18446744073709551616 < st := by omega
  have st2 : st < 18446744073709551616 := by omega
  have hlen : (rows.length : Int) = st * ((WS ni).length : Int) := by rw [WS_len, M.hlen]; simp
  have hg' : ∀ l, (S ++ l)[g]? = some (.lst (rows.map rowD)) := fun l => get_lo hg
  have b3 : run (callN Fs (k + 2)) (.ite (.cmp .ne (.bi .len (.cons (.var 4) .nil)) (.bin .mul (.var 1) (.bi .len (.cons (.call i_words (.cons (.var 2) .nil)) .nil)))) (.seq (.raise 0)
    .skip) .skip) [some (.ref S.length), some (.int st), some (.int ni), some (.int no), some (.ref g), none] (S ++ [.ins "Machine" []]) = .nx [some (.ref S.length), some (.int st), some (.int ni), some (.int no), some (.ref g), none] (S ++ [.ins "Machine" [], .lst ((WS ni).map wD)]) := by
    simp [varR, tw, st1, st2, hg', hlen]
  have fs : ∀ (c f : Str) (d : D) (fs : List (Str × D)) (l : List Cell) ρ, fs.length < 1000 → fstO c f d (.ref S.length) ρ (S ++ .ins c fs :: l) = .nx ρ (S ++ .ins c (putD f d fs) :: l) := fun c f d fs l ρ h => by
    rw [fstO_ins (fs := fs) (by simp) h]
    simp
  have b4 : run (callN Fs (k + 2)) (.fst "Machine" "states" (.var 0) (.var 1)) [some (.ref S.length), some (.int st), some (.int ni), some (.int no), some (.ref g), none] (S ++ [.ins "Machine" [], .lst ((WS ni).map wD)]) = .nx [some (.ref S.length), some (.int st), some (.int ni), some (.int no), some (.ref g), none] (S ++ [.ins "Machine" [("states", .int st)], .lst ((WS ni).map wD)]) := by
    simp [varR, fs, putD]
  have b5 : run (callN Fs (k + 2)) (.fst "Machine" "inputs" (.var 0) (.var 2)) [some (.ref S.length), some (.int st), some (.int ni), some (.int no), some (.ref g), none] (S ++ [.ins "Machine" [("states", .int st)], .lst ((WS ni).map wD)]) = .nx [some (.ref S.length), some (.int st), some (.int ni), some (.int no), some (.ref g), none] (S ++ [.ins "Machine" [("states", .int st), ("inputs", .int ni)], .lst ((WS ni).map wD)]) := by
    simp [varR, fs, putD]
  have b6 : run (callN Fs (k + 2)) (.fst "Machine" "outputs" (.var 0) (.var 3)) [some (.ref S.length), some (.int st), some (.int ni), some (.int no), some (.ref g), none] (S ++ [.ins "Machine" [("states", .int st), ("inputs", .int ni)], .lst ((WS ni).map wD)]) = .nx [some (.ref S.length), some (.int st), some (.int ni), some (.int no), some (.ref g), none] (S ++ [.ins "Machine" [("states", .int st), ("inputs", .int ni), ("outputs", .int no)], .lst ((WS ni).map wD)]) := by
    simp [varR, fs, putD]
  have b7 : run (callN Fs (k + 2)) (.fst "Machine" "_rows" (.var 0) (.lst .nil)) [some (.ref S.length), some (.int st), some (.int ni), some (.int no), some (.ref g), none] (S ++ [.ins "Machine" [("states", .int st), ("inputs", .int ni), ("outputs", .int no)], .lst ((WS ni).map wD)]) =
      .nx [some (.ref S.length), some (.int st), some (.int ni), some (.int no), some (.ref g), none] (S ++ [.ins "Machine" (mF st ni no (S.length + 2)), .lst ((WS ni).map wD), .lst []]) := by
    simp [varR, fs, putD, linesz_is]
  obtain ⟨ρ1, S1, e1, ⟨q, rfl⟩, rfl⟩ := for_inv (ck := ckS (some (g, .lst (rows.map rowD)))) (f := fun x ρ S => (asgO (.var 5) x ρ S).seq (run (callN Fs (k + 2)) b_Machine_init_1)) (ds := rows.map rowD) (ρ := [some (.ref S.length), some (.int st), some (.int ni), some (.int no), some (.ref g), none]) (S := S ++ [.ins "Machine" (mF st ni no (S.length + 2)), .lst ((WS ni).map wD), .lst []])
    (fun j ρ' S' => (∃ q, ρ' = [some (.ref S.length), some (.int st), some (.int ni), some (.int no), some (.ref g), q]) ∧ S' = S ++ [.ins "Machine" (mF st ni no (S.length + 2)), .lst ((WS ni).map wD), .lst ((rows.take j).map rowD)])
    ⟨⟨none, rfl⟩, rfl⟩ (fun j ρ' S' ⟨_, e⟩ => by subst e; simp only [ckS_some, hg', decide_true]) (fun j x ρ' S' hj ⟨⟨q, e1⟩, e2⟩ => by
      subst e1 e2
      rw [List.getElem?_map] at hj
      cases hr : rows[j]? with
      | none => rw [hr] at hj; cases hj
      | some r =>
        rw [hr] at hj
        cases hj
        have hro := M.hok r (List.mem_of_getElem? hr)
        have q1 := fun S => isint_yes (k := k + 1) (S := S) (i := r.1) (lo := 0) (hi := st - 1) hro.1 (by have := hro.2.1; omega)
        have q2 := fun S => isword_yes (k := k) (S := S) (w := r.2) (b := no) hro.2.2.1 hro.2.2.2 (by omega)
        have hlen2 : (rows.take j).length < 16777216 := by
          rw [List.length_take]
          have h8 : st * 2 ^ ni ≤ 8 * 2 ^ 3 := Int.le_trans (Int.mul_le_mul_of_nonneg_right hst.2 (Int.pow_nonneg (by decide))) (Int.mul_le_mul_of_nonneg_left (by exact_mod_cast Nat.pow_le_pow_right (by decide) hni) (by decide))
          have := M.hlen
          omega
        have hf : fldR "Machine" "_rows" (.ref S.length) (S ++ [.ins "Machine" (mF st ni no (S.length + 2)), .lst ((WS ni).map wD), .lst ((rows.take j).map rowD)]) = .ok (.ref (S.length + 2)) (S ++ [.ins "Machine" (mF st ni no (S.length + 2)), .lst ((WS ni).map wD), .lst ((rows.take j).map rowD)]) :=
          fldR_ins (fs := mF st ni no (S.length + 2)) (by simp) (by simp [mF, List.lookup])
        have hap : meD .append (.ref (S.length + 2)) [rowD r] (S ++ [.ins "Machine" (mF st ni no (S.length + 2)), .lst ((WS ni).map wD), .lst ((rows.take j).map rowD)]) = .ok .non (S ++ [.ins "Machine" (mF st ni no (S.length + 2)), .lst ((WS ni).map wD), .lst ((rows.take (j + 1)).map rowD)]) := by
          rw [meD_append (ds := (rows.take j).map rowD) (by simp) (by rw [List.length_map]; exact hlen2)]
          rw [List.take_succ, hr, Option.toList_some, List.map_append]
          simp
        have hmo : meOk .append (.ref (S.length + 2)) (S ++ [.ins "Machine" (mF st ni no (S.length + 2)), .lst ((WS ni).map wD), .lst ((rows.take j).map rowD)]) = true := meOk_lst (ds := (rows.take j).map rowD) (by simp)
        refine ⟨_, _, ?_, ⟨some (rowD r), rfl⟩, rfl⟩
        generalize hSS : S ++ [.ins "Machine" (mF st ni no (S.length + 2)), .lst ((WS ni).map wD), .lst ((rows.take j).map rowD)] = SS at *
        simp [b_Machine_init_1, varR, linesz_is, q1, q2, hf, hap, hmo])
  rw [List.length_map, List.take_length] at e1
  have b8 : itr (callN Fs (k + 2)) (.var 4) [some (.ref S.length), some (.int st), some (.int ni), some (.int no), some (.ref g), none] (S ++ [.ins "Machine" (mF st ni no (S.length + 2)), .lst ((WS ni).map wD), .lst []]) = .ok ⟨rows.map rowD, some (g, .lst (rows.map rowD))⟩ (S ++ [.ins "Machine" (mF st ni no (S.length + 2)), .lst ((WS ni).map wD), .lst []]) := by
    simp [varR, hg']
  have b12 : run (callN Fs (k + 2)) (.ite (.or (.not (.call i_is_integer (.cons (.var 1) (.cons (.int 1) (.cons (.glb "MOST_STATES" (.int 8)) .nil))))) (.not (.call i_is_integer (.cons (.var 2) (.cons (.int 0) (.cons (.glb "MOST_INPUTS" (.int 3)) .nil)))))) (.seq (.raise 0)
    .skip) .skip) [some (.ref S.length), some (.int st), some (.int ni), some (.int no), some (.ref g), none] (S ++ [.ins "Machine" []]) = .nx [some (.ref S.length), some (.int st), some (.int ni), some (.int no), some (.ref g), none] (S ++ [.ins "Machine" []]) := by
    simp [varR, i1, i2]
  have b13 : run (callN Fs (k + 2)) (.ite (.not (.call i_is_integer (.cons (.var 3) (.cons (.int 1) (.cons (.glb "MOST_OUTPUTS" (.int 3)) .nil))))) (.seq (.raise 0)
    .skip) .skip) [some (.ref S.length), some (.int st), some (.int ni), some (.int no), some (.ref g), none] (S ++ [.ins "Machine" []]) = .nx [some (.ref S.length), some (.int st), some (.int ni), some (.int no), some (.ref g), none] (S ++ [.ins "Machine" []]) := by
    simp [varR, i3]
  unfold c_Machine_init
  rw [run_seq, b12, seq_nx, run_seq, b13, seq_nx, run_seq, b3, seq_nx, run_seq, b4, seq_nx, run_seq, b5, seq_nx, run_seq, b6, seq_nx, run_seq, b7, seq_nx, run_seq, run_for, b8, of_ok]
  simp only
  rw [e1, seq_nx, run_skip, finO_nx]
  exact fin_mach (refs_rows rows)
theorem new_ok {g : Nat} {st : Int} {ni no : Nat} {rows : List (Int × List Int)} (M : MOk st ni no rows) (hg : S[g]? = some (.lst (rows.map rowD))) :
    callN Fs (k + 4) i_Machine_new [.int st, .int ni, .int no, .ref g] S = .ok (.ref S.length) (S ++ [.ins "Machine" (mF st ni no (S.length + 1)), .lst (rows.map rowD)]) := by
  rw [cl_Machine_new]
  unfold mkR
  rw [init_ok M hg, bind_ok, if_pos rfl]
end
end Lw

set_option Elab.async false
set_option linter.all false
set_option maxRecDepth 100000
set_option maxHeartbeats 400000
namespace Lw
open PySem L2 Ng
/-! rows asked -/
section
variable {k : Nat} {S : Store}
theorem fld_m {m r : Nat} {st : Int} {ni no : Nat} (h : S[m]? = some (.ins "Machine" (mF st ni no r))) :
    fldR "Machine" "states" (.ref m) S = .ok (.int st) S ∧ fldR "Machine" "inputs" (.ref m) S = .ok (.int ni) S ∧ fldR "Machine" "outputs" (.ref m) S = .ok (.int no) S ∧ fldR "Machine" "_rows" (.ref m) S = .ok (.ref r) S :=
  ⟨fldR_ins h (by simp [mF, List.lookup]), fldR_ins h (by simp [mF, List.lookup]), fldR_ins h (by simp [mF, List.lookup]), fldR_ins h (by simp [mF, List.lookup])⟩
theorem mth_m {m r : Nat} {st : Int} {ni no : Nat} (h : S[m]? = some (.ins "Machine" (mF st ni no r))) : mthOk S "Machine" "row" (.ref m) = true ∧ mthOk S "Machine" "run" (.ref m) = true ∧ mthOk S "Machine" "trace" (.ref m) = true ∧ mthOk S "Machine" "table" (.ref m) = true :=
  ⟨mthOk_ins h (by simp [mF, List.lookup]), mthOk_ins h (by simp [mF, List.lookup]), mthOk_ins h (by simp [mF, List.lookup]), mthOk_ins h (by simp [mF, List.lookup])⟩
theorem row_ok {m : Nat} {st : Int} {ni no : Nat} {rows : List (Int × List Int)} (M : MOk st ni no rows) (hm : MachAt S m st ni no rows) {s : Int} {w : List Int} (hs : 0 ≤ s ∧ s < st) (hw : w.length = ni ∧ Bits w) :
    callN Fs (k + 3) i_Machine_row [.ref m, .int s, wD w] S = .ok (rowD (stepR rows ni s w)) S := by
  rw [cl_Machine_row]
  obtain ⟨r, h1, h2⟩ := hm.at_
  obtain ⟨f1, f2, f3, f4⟩ := fld_m h1
  have hg : ∀ l, (S ++ l)[m]? = some (.ins "Machine" (mF st ni no r)) := fun l => get_lo h1
  have f2' : ∀ l, fldR "Machine" "inputs" (.ref m) (S ++ l) = .ok (.int ni) (S ++ l) := fun l => (fld_m (hg l)).2.1
  have h2' : ∀ l, (S ++ l)[r]? = some (.lst (rows.map rowD)) := fun l => get_lo h2
  have i1 := isint_yes (k := k + 1) (S := S) (i := s) (lo := 0) (hi := st - 1) hs.1 (by omega)
  have i2 := isword_yes (k := k) (S := S) (w := w) (b := ni) hw.1 hw.2 (by have := M.hni; omega)
  have tw : ∀ S, callN Fs (k + 2) i_words [.int ni] S = .ok (.ref S.length) (S ++ [.lst ((WS ni).map wD)]) := fun S => words_ok M.hni
  have nv : ∀ S, callN Fs (k + 2) i_number_of [wD w] S = .ok (.int (val w)) S := fun S => number_of_ok hw.2 (by have := M.hni; omega)
  have hst := M.hst
  have s1 : -18446744073709551616 < s := by omega
  have s2 : s < 18446744073709551616 := by omega
  have hL : ((WS ni).length : Int) = 2 ^ ni := by rw [WS_len]; simp
  obtain ⟨p0, p1, p2⟩ := step_at M hs hw
  have hat : ∀ S, atR (rows.map rowD) (s * ((WS ni).length : Int) + val w) S = .ok (rowD (stepR rows ni s w)) S := fun S => by
    rw [hL]
    exact atR_int p0 (by rw [List.getElem?_map, p1]; rfl)
  simp [c_Machine_row, varR, f1, f2, f4, f2', i1, i2, tw, nv, s1, s2, h2', hat]
end
end Lw

set_option Elab.async false
set_option linter.all false
set_option maxRecDepth 100000
set_option maxHeartbeats 400000
namespace Lw
open PySem L2 Ng
/-! words of numbers, exactly -/
def wordF (v : Int) : Nat → List Int
  | 0 => []
  | j + 1 => (v / 2 ^ j % 2) :: wordF v j
theorem wordF_len (v : Int) : ∀ b, (wordF v b).length = b
  | 0 => rfl
  | b + 1 => by simp [wordF, wordF_len v b]
theorem wordF_bits (v : Int) : ∀ b, Bits (wordF v b)
  | 0 => fun x hx => by simp [wordF] at hx
  | b + 1 => fun x hx => by
    rcases List.mem_cons.mp hx with rfl | hx
    · omega
    · exact wordF_bits v b x hx
theorem foldl_val (a : Int) : ∀ w : List Int, w.foldl (fun n b => 2 * n + b) a = a * 2 ^ w.length + val w
  | [] => by simp [val]
  | x :: w => by
    rw [List.foldl_cons, foldl_val (2 * a + x) w]
    show _ = a * 2 ^ (w.length + 1) + w.foldl (fun n b => 2 * n + b) (2 * 0 + x)
    rw [foldl_val (2 * 0 + x) w, Int.pow_succ, Int.add_mul]
    have e : 2 * a * 2 ^ w.length = a * (2 ^ w.length * 2) := by
      rw [Int.mul_comm 2 a, Int.mul_assoc, Int.mul_comm 2]
    have e2 : (2 * 0 + x) * 2 ^ w.length = x * 2 ^ w.length := by simp
    omega
theorem val_cons (x : Int) (w : List Int) : val (x :: w) = x * 2 ^ w.length + val w := by
  show w.foldl (fun n b => 2 * n + b) (2 * 0 + x) = _
  rw [foldl_val]
  simp
theorem val_wordF {v : Int} (h : 0 ≤ v) : ∀ b, val (wordF v b) = v % 2 ^ b
  | 0 => by simp [wordF, val]
  | b + 1 => by
    have hp : (0 : Int) < 2 ^ b := Int.pow_pos (by decide)
    rw [wordF, val_cons, wordF_len, val_wordF h b, Int.pow_succ]
    have e1 : v % 2 ^ b = v - 2 ^ b * (v / 2 ^ b) := by have := Int.emod_add_mul_ediv v (2 ^ b); omega
    have e2 : v / (2 ^ b * 2) = v / 2 ^ b / 2 := (Int.ediv_ediv_of_nonneg (Int.le_of_lt hp)).symm
    have e3 : v % (2 ^ b * 2) = v - (2 ^ b * 2) * (v / 2 ^ b / 2) := by have := Int.emod_add_mul_ediv v (2 ^ b * 2); rw [e2] at this; omega
    rw [e1, e3]
    generalize hq : v / 2 ^ b = q
    have e4 : q % 2 = q - 2 * (q / 2) := by omega
    rw [e4, Int.sub_mul]
    generalize q / 2 = r
    have e5 : q * 2 ^ b = 2 ^ b * q := Int.mul_comm _ _
    have e6 : 2 * r * 2 ^ b = 2 ^ b * 2 * r := by rw [Int.mul_comm (2 * r), Int.mul_assoc]
    omega
theorem wordF_inj {v u : Int} {b : Nat} (h : 0 ≤ v ∧ v < 2 ^ b) (h2 : 0 ≤ u ∧ u < 2 ^ b) (e : wordF v b = wordF u b) : v = u := by
  have := congrArg val e
  rw [val_wordF h.1, val_wordF h2.1, Int.emod_eq_of_lt h.1 h.2, Int.emod_eq_of_lt h2.1 h2.2] at this
  exact this
theorem val_inj : ∀ {v w : List Int}, v.length = w.length → Bits v → Bits w → val v = val w → v = w
  | [], [], _, _, _, _ => rfl
  | x :: v, y :: w, hl, hv, hw, e => by
    have hl' : v.length = w.length := by simpa using hl
    have hv' : Bits v := fun z hz => hv z (List.mem_cons_of_mem _ hz)
    have hw' : Bits w := fun z hz => hw z (List.mem_cons_of_mem _ hz)
    rw [val_cons, val_cons, hl'] at e
    have b1 := val_bd hv'
    have b2 := val_bd hw'
    rw [hl'] at b1
    have hx := hv x List.mem_cons_self
    have hy := hw y List.mem_cons_self
    have hxy : x = y ∧ val v = val w := by
      rcases hx with rfl | rfl <;> rcases hy with rfl | rfl <;> omega
    rw [hxy.1, val_inj hl' hv' hw' hxy.2]
  | [], _ :: _, hl, _, _, _ => by simp at hl
  | _ :: _, [], hl, _, _, _ => by simp at hl
theorem WS_val : ∀ (b i : Nat) (w : List Int), (WS b)[i]? = some w → val w = i
  | 0, i, w, h => by
    cases i with
    | zero => simp [WS] at h; rw [h]; rfl
    | succ i => simp [WS] at h
  | b + 1, i, w, h => by
    have key : ∀ (l : List (List Int)) (i : Nat) (w : List Int), (l.flatMap fun w => [w ++ [0], w ++ [1]])[i]? = some w → ∃ v, l[i / 2]? = some v ∧ w = v ++ [((i % 2 : Nat) : Int)] := by
      intro l
      induction l with
      | nil => intro i w h; simp at h
      | cons x l ih =>
        intro i w h
        rw [List.flatMap_cons] at h
        match i, h with
        | 0, h => simp at h; exact ⟨x, rfl, by rw [← h]; rfl⟩
        | 1, h => simp at h; exact ⟨x, rfl, by rw [← h]; rfl⟩
        | i + 2, h =>
          obtain ⟨v, h1, h2⟩ := ih i w (by simpa using h)
          refine ⟨v, ?_, ?_⟩
          · rw [show (i + 2) / 2 = i / 2 + 1 by omega]; simpa using h1
          · rw [show (i + 2) % 2 = i % 2 by omega]; exact h2
    obtain ⟨v, h1, h2⟩ := key (WS b) i w h
    have ih := WS_val b (i / 2) v h1
    rw [h2]
    unfold val at *
    rw [List.foldl_append, ih]
    simp only [List.foldl_cons, List.foldl_nil]
    omega
theorem WS_bits : ∀ (b : Nat) (w : List Int), w ∈ WS b → Bits w
  | 0, w, h => by simp [WS] at h; subst h; exact fun x hx => by simp at hx
  | b + 1, w, h => by
    simp only [WS, List.mem_flatMap] at h
    obtain ⟨v, hv, hw⟩ := h
    have := WS_bits b v hv
    simp at hw
    rcases hw with rfl | rfl <;> (intro x hx; rcases List.mem_append.mp hx with hx | hx; exact this x hx; simp at hx; omega)
section
variable {k : Nat} {S : Store}
theorem wordx_ok {v : Int} (hv : 0 ≤ v) {b : Nat} (hb : b ≤ 1000) : callN Fs (k + 1) i_law_word [.int v, .int b] S = .ok (wD (wordF v b)) S := by
  rw [cl_law_word]
  obtain ⟨ρ1, S1, e1, ⟨o, rfl⟩, rfl⟩ := for_inv (ck := ckS none) (f := fun x ρ S => (asgO (.var 3) x ρ S).seq (run (callN Fs k) b_law_word_1)) (ds := rngD 0 b) (ρ := [some (.int v), some (.int b), some (wD []), none]) (S := S)
    (fun j ρ' S' => (∃ o, ρ' = [some (.int (v / 2 ^ j)), some (.int b), some (wD (wordF v j)), o]) ∧ S' = S) ⟨⟨none, by simp [wordF]⟩, rfl⟩ (fun _ _ _ _ => rfl) (fun j x ρ' S' hj ⟨⟨o, e1⟩, e2⟩ => by
      subst e1 e2
      obtain ⟨hj2, rfl⟩ := rng_at0 hj
      have hlen : (wordF v j).length = j := wordF_len v j
      have hd : v / 2 ^ (j + 1) = v / 2 ^ j / 2 := by rw [Int.pow_succ]; exact (Int.ediv_ediv_of_nonneg (Int.pow_nonneg (by decide))).symm
      have ht : ∀ S, bin2 .add (.tup [.int (v / 2 ^ j % 2)]) (wD (wordF v j)) S = .ok (wD (wordF v (j + 1))) S := fun S => by
        rw [b2_tcat (by simp [linesz_is, hlen]; omega)]; simp [wordF]
      refine ⟨_, _, ?_, ⟨some (.int j), rfl⟩, rfl⟩
      rw [hd]
      generalize wordF v (j + 1) = w1 at *
      generalize wordF v j = w0 at *
      generalize v / 2 ^ j = q at *
      simp [b_law_word_1, varR, linesz_is, ht])
  rw [rng_len] at e1
  have hb2 : -4611686018427387904 ≤ (b : Int) ∧ (b : Int) < 4611686018427387904 := by omega
  unfold c_law_word
  rw [run_seq, show run (callN Fs k) (.asg (.var 2) (.tup .nil)) [some (.int v), some (.int b), none, none] S1 = .nx [some (.int v), some (.int b), some (wD []), none] S1 from by simp [linesz_is], seq_nx, run_seq, run_for,
    show itr (callN Fs k) (.rng (.cons (.var 1) .nil)) [some (.int v), some (.int b), some (wD []), none] S1 = .ok ⟨rngD 0 b, none⟩ S1 from by simp [varR, hb2], of_ok]
  simp only
  rw [e1]
  simp [varR]
theorem word_of_ok {v : Int} (hv : 0 ≤ v) {b : Nat} (hb : b ≤ 1000) : callN Fs (k + 1) i_word_of [.int v, .int b] S = .ok (wD (wordF v b)) S := wordx_ok (k := k) (S := S) hv hb
end
end Lw

set_option Elab.async false
set_option linter.all false
set_option maxRecDepth 100000
set_option maxHeartbeats 400000
namespace Lw
open PySem L2 Ng
/-! planes -/
def rowW (sb : Nat) (r : Int × List Int) : List Int := wordF r.1 sb ++ r.2
def tmK (rows : List (Int × List Int)) (ni sb m : Nat) : Option (List Int × List Int) :=
  match rows[m]?, (WS ni)[m % 2 ^ ni]? with
  | some r, some w => if 1 ∈ rowW sb r then some (w ++ wordF ((m / 2 ^ ni : Nat) : Int) sb, rowW sb r) else none
  | _, _ => none
def TM (rows : List (Int × List Int)) (ni sb m : Nat) : List (List Int × List Int) := (List.range m).filterMap (tmK rows ni sb)
theorem TM_succ (rows : List (Int × List Int)) (ni sb m : Nat) : TM rows ni sb (m + 1) = TM rows ni sb m ++ (tmK rows ni sb m).toList := by
  unfold TM
  rw [List.range_succ, List.filterMap_append]
  cases h : tmK rows ni sb m <;> simp [h]
theorem TM_len (rows : List (Int × List Int)) (ni sb m : Nat) : (TM rows ni sb m).length ≤ m := by
  unfold TM
  have := List.length_filterMap_le (tmK rows ni sb) (List.range m)
  simpa using this
abbrev termD (t : List Int × List Int) : D := .tup [wD t.1, wD t.2]
def sbN (st : Int) : Nat := Builtin.Int.intBits (st - 1)
theorem sbN_ok {st : Int} (h : 1 ≤ st ∧ st ≤ 8) : sbN st ≤ 3 ∧ st ≤ 2 ^ sbN st := by
  rcases (show st = 1 ∨ st = 2 ∨ st = 3 ∨ st = 4 ∨ st = 5 ∨ st = 6 ∨ st = 7 ∨ st = 8 by omega) with rfl | rfl | rfl | rfl | rfl | rfl | rfl | rfl <;> decide
theorem inF_ints (i : Int) : ∀ v : List Int, inF (.int i) (v.map D.int) = decide (i ∈ v)
  | [] => by simp [inF]
  | x :: v => by
    rw [List.map_cons, inF_cons, inF_ints i v, eqF_int]
    by_cases h : x = i
    · simp [h]
    · simp [h, Ne.symm h, show ¬ i = x from fun e => h e.symm]
theorem flat_ints (v : List Int) : (v.map D.int).all flatD = true := by
  rw [List.all_eq_true]
  intro d hd
  obtain ⟨i, _, rfl⟩ := List.mem_map.mp hd
  rfl
theorem has1 {S : Store} (v : List Int) : cmpT .in_ (.int 1) (wD v) S = .ok (decide (1 ∈ v)) S := by
  rw [cT_in _ _ (by rw [flat_ints]; rfl), inF_ints]
theorem refs_terms (l : List (List Int × List Int)) : D.refsL (l.map termD) = [] := by
  induction l with
  | nil => rfl
  | cons x l ih => simp [ih]
section
variable {k : Nat} {S : Store}
theorem state_bits_ok {m : Nat} {st : Int} {ni no : Nat} {rows : List (Int × List Int)} (hm : MachAt S m st ni no rows) : callN Fs (k + 1) i_state_bits [.ref m] S = .ok (.int (sbN st : Nat)) S := by
  rw [cl_state_bits]
  obtain ⟨r, h1, h2⟩ := hm.at_
  obtain ⟨f1, f2, f3, f4⟩ := fld_m h1
  simp [c_state_bits, varR, f1, sbN]
theorem plane_ok {m : Nat} {st : Int} {ni no : Nat} {rows : List (Int × List Int)} (M : MOk st ni no rows) (hm : MachAt S m st ni no rows) :
    callN Fs (k + 4) i_plane [.ref m] S = .ok (.ref S.length) (S ++ [.lst ((TM rows ni (sbN st) rows.length).map termD)]) := by
  rw [cl_plane]
  have hst := M.hst; have hni := M.hni; have hno := M.hno
  obtain ⟨hsb, hsb2⟩ := sbN_ok hst
  generalize hsbv : sbN st = sb at *
  have esb : ∀ S, MachAt S m st ni no rows → callN Fs (k + 3) i_state_bits [.ref m] S = .ok (.int sb) S := fun S h => by rw [state_bits_ok (k := k + 2) h, hsbv]
  obtain ⟨n, hn⟩ : ∃ n : Nat, n = 2 ^ ni := ⟨_, rfl⟩
  have hWn : (WS ni).length = n := by rw [WS_len, hn]
  have hn0 : 0 < n := by rw [hn]; exact Nat.pos_of_ne_zero (by simp)
  have hn8 : n ≤ 8 := by have := WS_le hni; omega
  have hrl : (rows.length : Int) = st * (n : Int) := by rw [M.hlen, hn]; simp
  have hrl64 : rows.length ≤ 64 := by
    have : st * (n : Int) ≤ 8 * 8 := Int.le_trans (Int.mul_le_mul_of_nonneg_right hst.2 (by omega)) (Int.mul_le_mul_of_nonneg_left (by omega) (by decide))
    omega
  obtain ⟨r0, h1, h2⟩ := hm.at_
  have hm' : ∀ l, MachAt (S ++ l) m st ni no rows := fun l => hm.app l
  have f' : ∀ l, fldR "Machine" "states" (.ref m) (S ++ l) = .ok (.int st) (S ++ l) ∧ fldR "Machine" "inputs" (.ref m) (S ++ l) = .ok (.int ni) (S ++ l) := fun l => ⟨(fld_m (get_lo h1)).1, (fld_m (get_lo h1)).2.1⟩
  have hmt : ∀ l, mthOk (S ++ l) "Machine" "row" (.ref m) = true := fun l => (mth_m (get_lo h1)).1
  have tw : ∀ S, callN Fs (k + 3) i_words [.int ni] S = .ok (.ref S.length) (S ++ [.lst ((WS ni).map wD)]) := fun S => words_ok (k := k + 2) hni
  obtain ⟨ρ1, S1, e1, q3, q4, q5, q6, q7, J, rfl, rfl⟩ := for_inv (ck := ckS none) (f := fun x ρ S => (asgO (.var 3) x ρ S).seq (run (callN Fs (k + 3)) b_plane_2)) (ds := rngD 0 st.toNat) (ρ := [some (.ref m), some (.int sb), some (.ref S.length), none, none, none, none, none]) (S := S ++ [.lst []])
    (fun s ρ' S' => ∃ q3 q4 q5 q6 q7 J, ρ' = [some (.ref m), some (.int sb), some (.ref S.length), q3, q4, q5, q6, q7] ∧ S' = S ++ (.lst ((TM rows ni sb (s * n)).map termD) :: J))
    ⟨none, none, none, none, none, [], rfl, by simp [TM]⟩ (fun _ _ _ _ => rfl) (fun s x ρ' S' hj ⟨q3, q4, q5, q6, q7, J, e1, e2⟩ => by
      subst e1 e2
      obtain ⟨hs2, rfl⟩ := rng_at0 hj
      have hs3 : (0 : Int) ≤ s ∧ (s : Int) < st := by omega
      have hsn : (s + 1) * n ≤ rows.length := by
        have : ((s : Int) + 1) * n ≤ st * n := Int.mul_le_mul_of_nonneg_right (by omega) (by omega)
        have h3 : (((s + 1) * n : Nat) : Int) = ((s : Int) + 1) * n := by simp
        omega
      rw [Nat.add_mul, Nat.one_mul] at hsn
      have hlk : ∀ c, (S ++ (c :: (J ++ [Cell.lst ((WS ni).map wD)])))[S.length + (J.length + 1)]? = some (.lst ((WS ni).map wD)) := fun c => by rw [getk]; simp
      obtain ⟨ρ2, S2, e2, q4, q5, q6, q7, rfl, rfl⟩ := for_inv (ck := ckS (some (S.length + (J.length + 1), .lst ((WS ni).map wD)))) (f := fun x ρ S => (asgO (.var 4) x ρ S).seq (run (callN Fs (k + 3)) b_plane_1)) (ds := (WS ni).map wD) (ρ := [some (.ref m), some (.int sb), some (.ref S.length), some (.int s), q4, q5, q6, q7]) (S := S ++ (.lst ((TM rows ni sb (s * n)).map termD) :: (J ++ [.lst ((WS ni).map wD)])))
        (fun i ρ' S' => ∃ q4 q5 q6 q7, ρ' = [some (.ref m), some (.int sb), some (.ref S.length), some (.int s), q4, q5, q6, q7] ∧ S' = S ++ (.lst ((TM rows ni sb (s * n + i)).map termD) :: (J ++ [.lst ((WS ni).map wD)])))
        ⟨q4, q5, q6, q7, rfl, rfl⟩ (fun i ρ' S' ⟨_, _, _, _, _, e⟩ => by subst e; simp only [ckS_some, hlk, decide_true]) (fun i x ρ' S' hi ⟨q4, q5, q6, q7, e1, e2⟩ => by
          subst e1 e2
          rw [List.getElem?_map] at hi
          cases hw : (WS ni)[i]? with
          | none => rw [hw] at hi; cases hi
          | some w =>
            rw [hw] at hi
            cases hi
            have hil : i < n := by have := (List.getElem?_eq_some_iff.mp hw).1; omega
            have hwm := List.mem_of_getElem? hw
            have hwl := WS_wlen ni w hwm
            have hwb := WS_bits ni w hwm
            have hwv := WS_val ni i w hw
            obtain ⟨p0, p1, p2⟩ := step_at M hs3 ⟨hwl, hwb⟩
            have hidx : ((s : Int) * 2 ^ ni + val w).toNat = s * n + i := by
              rw [hwv, hn]
              have : ((s : Int) * 2 ^ ni + (i : Int)) = ((s * 2 ^ ni + i : Nat) : Int) := by simp
              rw [this]; exact Int.toNat_natCast _
            rw [hidx] at p1
            obtain ⟨a, o, hr⟩ : ∃ a o, stepR rows ni (s : Int) w = (a, o) := ⟨_, _, rfl⟩
            have er := fun l => row_ok (k := k) M (hm' l) hs3 ⟨hwl, hwb⟩
            rw [hr] at p1 p2 er
            have ha : 0 ≤ a := p2.1
            have hol : o.length = no := p2.2.2.1
            have ew : ∀ S, callN Fs (k + 3) i_word_of [.int a, .int sb] S = .ok (wD (wordF a sb)) S := fun S => word_of_ok (k := k + 2) ha (by omega)
            have es : ∀ S, callN Fs (k + 3) i_word_of [.int s, .int sb] S = .ok (wD (wordF s sb)) S := fun S => word_of_ok (k := k + 2) hs3.1 (by omega)
            have t1 : ∀ S, bin2 .add (wD (wordF a sb)) (wD o) S = .ok (wD (rowW sb (a, o))) S := fun S => by
              rw [b2_tcat (by simp [linesz_is, wordF_len]; omega)]; simp [rowW]
            have t2 : ∀ S, bin2 .add (wD w) (wD (wordF s sb)) S = .ok (wD (w ++ wordF s sb)) S := fun S => by
              rw [b2_tcat (by simp [linesz_is, wordF_len]; omega)]; simp
            have hmod : (s * n + i) % n = i := by rw [Nat.add_comm, Nat.add_mul_mod_self_right]; exact Nat.mod_eq_of_lt hil
            have hdiv : (s * n + i) / n = s := by rw [Nat.add_comm, Nat.add_mul_div_right _ _ hn0, Nat.div_eq_of_lt hil]; omega
            have htm : tmK rows ni sb (s * n + i) = if 1 ∈ rowW sb (a, o) then some (w ++ wordF s sb, rowW sb (a, o)) else none := by
              unfold tmK
              rw [p1, ← hn, hmod, hw, hdiv]
            have hTl : (TM rows ni sb (s * n + i)).length < 16777216 := by have := TM_len rows ni sb (s * n + i); omega
            rw [← Nat.add_assoc, TM_succ, htm]
            refine ⟨[some (.ref m), some (.int sb), some (.ref S.length), some (.int s), some (wD w), some (.int a), some (wD o), some (wD (rowW sb (a, o)))], _, ?_, ⟨_, _, _, _, rfl, rfl⟩⟩
            have h1 := fun S => has1 (S := S) (rowW sb (a, o))
            generalize TM rows ni sb (s * n + i) = Tm at *
            generalize rowW sb (a, o) = sums at *
            generalize w ++ wordF s sb = lits at *
            generalize (wordF a sb) = wa at *
            generalize (wordF (s : Int) sb) = wss at *
            by_cases h : 1 ∈ sums
            · simp [b_plane_1, varR, linesz_is, hmt, er, ew, es, t1, t2, h1, h, hTl, asgO, asgT, asgT.asgTs]
            · simp [b_plane_1, varR, linesz_is, hmt, er, ew, es, t1, t2, h1, h, hTl, asgO, asgT, asgT.asgTs])
      rw [List.length_map, hWn, ← Nat.succ_mul] at e2
      refine ⟨[some (.ref m), some (.int sb), some (.ref S.length), some (.int s), q4, q5, q6, q7], S ++ (.lst ((TM rows ni sb ((s + 1) * n)).map termD) :: (J ++ [.lst ((WS ni).map wD)])), ?_, _, _, _, _, _, _, rfl, rfl⟩
      simp only [asgO_var, List.set_cons_succ, List.set_cons_zero, seq_nx]
      unfold b_plane_2
      rw [run_seq, run_for, show itr (callN Fs (k + 3)) (.call i_words (.cons (.fld "Machine" "inputs" (.var 0)) .nil)) [some (.ref m), some (.int sb), some (.ref S.length), some (.int s), _, _, _, _] (S ++ (.lst ((TM rows ni sb (s * n)).map termD) :: J)) = .ok ⟨(WS ni).map wD, some (S.length + (J.length + 1), .lst ((WS ni).map wD))⟩ (S ++ (.lst ((TM rows ni sb (s * n)).map termD) :: (J ++ [.lst ((WS ni).map wD)]))) from by
        generalize (TM rows ni sb (s * n)).map termD = TT at *
        generalize (WS ni).map wD = WW at *
        have hl2 := hlk (.lst TT)
        simp [varR, (f' _).2, tw, hl2], of_ok]
      simp only
      rw [e2, seq_nx, run_skip])
  rw [rng_len] at e1
  have hfin : st.toNat * n = rows.length := by
    have : ((st.toNat * n : Nat) : Int) = st * n := by rw [Int.natCast_mul, Int.toNat_of_nonneg (by omega)]
    omega
  rw [hfin] at e1
  have hst2 : -4611686018427387904 ≤ st ∧ st < 4611686018427387904 := by omega
  unfold c_plane
  rw [run_seq, show run (callN Fs (k + 3)) (.asg (.var 1) (.call i_state_bits (.cons (.var 0) .nil))) [some (.ref m), none, none, none, none, none, none, none] S = .nx [some (.ref m), some (.int sb), none, none, none, none, none, none] S from by
    simp [varR, esb S hm], seq_nx, run_seq, show run (callN Fs (k + 3)) (.asg (.var 2) (.lst .nil)) [some (.ref m), some (.int sb), none, none, none, none, none, none] S = .nx [some (.ref m), some (.int sb), some (.ref S.length), none, none, none, none, none] (S ++ [.lst []]) from by
    simp [linesz_is], seq_nx, run_seq, run_for, show itr (callN Fs (k + 3)) (.rng (.cons (.fld "Machine" "states" (.var 0)) .nil)) [some (.ref m), some (.int sb), some (.ref S.length), none, none, none, none, none] (S ++ [.lst []]) = .ok ⟨rngD 0 st.toNat, none⟩ (S ++ [.lst []]) from by
    simp [varR, f', hst2], of_ok]
  simp only
  rw [e1]
  simp [varR]
  have := fin_at (S := S) (i := 0) (cs := .lst ((TM rows ni sb rows.length).map termD) :: J) rfl (refs_terms _)
  simpa using this
end
end Lw

set_option Elab.async false
set_option linter.all false
set_option maxRecDepth 100000
set_option maxHeartbeats 400000
namespace Lw
open PySem L2 Ng
/-! the layout, as plain data -/
abbrev KV := List (List Int × D)
abbrev ow (w : Int) : D := .tup [.str "wire", .int w, .int 0]
abbrev fkS : D := .tup [.str "fork", .int 3, .int 0, .int 0, .int 0]
abbrev fkE : D := .tup [.str "fork", .int 0, .int 0, .int 0, .int 0]
abbrev crs : D := .tup [.str "cross", .int 0, .int 1, .int 0, .int 0]
abbrev anD : D := .tup [.str "and", .int 0, .int 0, .int 0, .int 0]
abbrev orD : D := .tup [.str "or", .int 3, .int 1, .int 0, .int 0]
abbrev ntS : D := .tup [.str "not", .int 3, .int 0]
def okD (d : D) : Prop := nbD d = true ∧ depD d ≤ 10
structure F4 where
  a : Option D
  b : Option D
  c : Option D
  d : Option D
abbrev F4.tp (f : F4) (n : D) : D := .tup [f.a.getD n, f.b.getD n, f.c.getD n, f.d.getD n]
def put1 (kvs : KV) (k : List Int) : Option D → KV
  | none => kvs
  | some d => dPut kvs k d
def fieldP (kvs : KV) (x y : Int) (f : F4) : KV := put1 (put1 (put1 (put1 kvs [x, y] f.a) [x + 1, y] f.b) [x, y + 1] f.c) [x + 1, y + 1] f.d
def lF (at_ : Nat) (bit : Int) : F4 :=
  if bit < 0 then (if at_ = 0 then ⟨some fkS, some ntS, some (ow 0), some anD⟩ else ⟨some (ow 0), some (ow 3), some (ow 0), some anD⟩)
  else if at_ = 0 then ⟨some fkS, some (if bit = 1 then ow 3 else ntS), some (ow 3), some (ow 0)⟩ else ⟨some fkS, some (if bit = 1 then ow 3 else ntS), some crs, some anD⟩
def sumF (sets goes begun : Bool) : F4 :=
  if sets then (if goes then ⟨some (ow 0), some (if begun then orD else ow 3), some fkE, some crs⟩ else ⟨some (ow 0), some (if begun then orD else ow 3), some (ow 1), some (ow 3)⟩)
  else if goes then ⟨none, if begun then some (ow 3) else none, some (ow 0), some (if begun then crs else ow 0)⟩ else ⟨none, if begun then some (ow 3) else none, none, if begun then some (ow 3) else none⟩
mutual
/-- numbers, texts, tuples of such -/
def sD : D → Bool
  | .int _ => true
  | .str _ => true
  | .tup ds => sDs ds && decide (ds.length ≤ 100000)
  | _ => false
def sDs : List D → Bool
  | [] => true
  | d :: ds => sD d && sDs ds
end
/-- what is asked of the states of a field -/
def okS (d : D) : Prop := okD d ∧ (∃ x r, d = .tup (.str x :: r)) ∧ sD d = true
def F4.ok (f : F4) : Prop := ∀ o, (o = f.a ∨ o = f.b ∨ o = f.c ∨ o = f.d) → ∀ d, o = some d → okS d
def litsN (r : Int) (bs : List Int) (kv : KV) : Nat → KV
  | 0 => kv
  | j + 1 => fieldP (litsN r bs kv j) (2 * (j : Int)) (2 * r) (lF j (bs.getD j 0))
def sumsN (x0 r : Int) (ss : List Int) (st : KV × List Bool) : Nat → KV × List Bool
  | 0 => st
  | j + 1 => (fieldP (sumsN x0 r ss st j).1 (x0 + 2 * (j : Int)) (2 * r) (sumF (decide (ss.getD j 0 = 1)) (decide (1 ∈ ss.drop (j + 1))) ((sumsN x0 r ss st j).2.getD j false)),
      (sumsN x0 r ss st j).2.set j ((sumsN x0 r ss st j).2.getD j false || decide (ss.getD j 0 = 1)))
def rowsN (L : Nat) (lines : List (List Int × List Int)) (st : KV × List Bool) : Nat → KV × List Bool
  | 0 => st
  | j + 1 => sumsN (2 * (L : Int)) j (lines.getD j ([], [])).2 (litsN j (lines.getD j ([], [])).1 (rowsN L lines st j).1 (lines.getD j ([], [])).1.length, (rowsN L lines st j).2) (lines.getD j ([], [])).2.length
def lineP (dx dy w : Int) : KV → Int → Int → Nat → KV
  | kvs, x, y, 0 => dPut kvs [x, y] (ow w)
  | kvs, x, y, n + 1 => lineP dx dy w (dPut kvs [x, y] (ow w)) (x + dx) (y + dy) n
def stateP (kvs : KV) (s ni col bot : Nat) : KV :=
  let k1 := if 0 < s then lineP 0 1 3 kvs col bot (s - 1) else kvs
  let k2 := lineP (-1) 0 2 k1 col ((bot : Int) + s) (col + s)
  let k3 := lineP 0 (-1) 1 k2 (-1 - (s : Int)) ((bot : Int) + s) (bot + 2 * s + 1)
  let k4 := lineP 1 0 0 k3 (-1 - (s : Int)) (-2 - (s : Int)) (2 * ni + 3 * s)
  let k5 := lineP 0 1 3 k4 (2 * ((ni : Int) + s)) (-2 - (s : Int)) s
  dPut k5 [2 * ((ni : Int) + s), -1] (.tup [.str "wire", .int 3, .int 8])
def statesN (ni L bot : Nat) (kv : KV) : Nat → KV
  | 0 => kv
  | n + 1 => stateP (statesN ni L bot kv n) n ni (2 * L + 2 * n + 1) bot
def crossN (x : Int) (kv : KV) : Nat → KV
  | 0 => kv
  | n + 1 => dPut (crossN x kv n) [x, -2 - (n : Int)] crs
def insN (bits : Nat) (kv : KV) : Nat → KV
  | 0 => kv
  | n + 1 => crossN (2 * (n : Int)) (lineP 0 1 3 (insN bits kv n) (2 * (n : Int)) (-2 - (bits : Int)) (bits + 1)) bits
def outsP (kv : KV) (ps : List (Int × Int)) : KV := ps.foldl (fun kv p => dPut kv [p.1, p.2] (ow 3)) kv
def outL (L bits bot no : Nat) : List (Int × Int) := (List.range no).map fun (i : Nat) => (2 * (L : Int) + 2 * ((bits : Int) + i) + 1, (bot : Int))
def inL (ni bits : Nat) : List (Int × Int) := (List.range ni).map fun (i : Nat) => (2 * (i : Int), -2 - (bits : Int))
abbrev linesL (ts : List (List Int × List Int)) (L S : Nat) : List (List Int × List Int) := ts ++ [(List.replicate L (-1), List.replicate S 1)]
/-- the whole: the rows of all terms and the zero row -/
def layP (ts : List (List Int × List Int)) (ni no bits : Nat) : KV :=
  outsP (insN bits (statesN ni (ni + bits) (2 * (ts.length + 1)) (rowsN (ni + bits) (linesL ts (ni + bits) (bits + no)) ([], List.replicate (bits + no) false) (ts.length + 1)).1 bits) ni) (outL (ni + bits) bits (2 * (ts.length + 1)) no)
/-! what stays true -/
structure Lim (b : Nat) (kvs : KV) : Prop where
  len : kvs.length ≤ b
  val : ∀ p ∈ kvs, okS p.2
  nod : (kvs.map (·.1)).Nodup
  pr : ∀ p ∈ kvs, ∃ i j, p.1 = [i, j]
theorem Lim.mono {b c : Nat} {kvs : KV} (h : Lim b kvs) (hc : b ≤ c) : Lim c kvs := { h with len := Nat.le_trans h.len hc }
theorem Lim.put {b : Nat} {kvs : KV} {i j : Int} {d : D} (h : Lim b kvs) (hd : okS d) : Lim (b + 1) (dPut kvs [i, j] d) := by
  refine ⟨?_, fun p hp => ?_, nodup_put h.nod, fun p hp => ?_⟩
  · rw [dPut_length]; have := h.len; split <;> omega
  · rcases mem_put hp with hp | rfl
    · exact h.val p hp
    · exact hd
  · rcases mem_put hp with hp | rfl
    · exact h.pr p hp
    · exact ⟨i, j, rfl⟩
theorem Lim.put1 {b : Nat} {kvs : KV} {i j : Int} {o : Option D} (h : Lim b kvs) (hd : ∀ d, o = some d → okS d) : Lim (b + 1) (put1 kvs [i, j] o) := by
  cases o with
  | none => exact h.mono (by omega)
  | some d => exact h.put (hd d rfl)
theorem Lim.field {b : Nat} {kvs : KV} {x y : Int} {f : F4} (h : Lim b kvs) (hf : f.ok) : Lim (b + 4) (fieldP kvs x y f) :=
  (((h.put1 (hf _ (.inl rfl))).put1 (hf _ (.inr (.inl rfl)))).put1 (hf _ (.inr (.inr (.inl rfl))))).put1 (hf _ (.inr (.inr (.inr rfl))))
theorem okS_c {x : String} {r : List D} (h : okD (.tup (.str x :: r))) (h2 : sD (.tup (.str x :: r)) = true := by simp [sD, sDs]) : okS (.tup (.str x :: r)) := ⟨h, ⟨_, _, rfl⟩, h2⟩
theorem ok_ow (w : Int) : okS (ow w) := okS_c ⟨by simp [nbD, nbDs]; decide +kernel, by simp [depD, depDs]⟩
theorem ok_w8 : okS (.tup [.str "wire", .int 3, .int 8]) := okS_c ⟨by decide +kernel, by simp [depD, depDs]⟩
theorem ok_fkS : okS fkS := okS_c ⟨by decide +kernel, by simp [depD, depDs]⟩
theorem ok_fkE : okS fkE := okS_c ⟨by decide +kernel, by simp [depD, depDs]⟩
theorem ok_crs : okS crs := okS_c ⟨by decide +kernel, by simp [depD, depDs]⟩
theorem ok_and : okS anD := okS_c ⟨by decide +kernel, by simp [depD, depDs]⟩
theorem ok_or : okS orD := okS_c ⟨by decide +kernel, by simp [depD, depDs]⟩
theorem ok_not : okS ntS := okS_c ⟨by decide +kernel, by simp [depD, depDs]⟩
theorem lF_ok (i : Nat) (b : Int) : (lF i b).ok := by
  intro o ho d hd
  subst hd
  unfold lF at ho
  split at ho
  · split at ho <;> simp only [Option.some.injEq] at ho <;> rcases ho with rfl | rfl | rfl | rfl <;> first | exact ok_fkS | exact ok_not | exact ok_ow _ | exact ok_and
  · split at ho <;> simp only [Option.some.injEq] at ho <;> rcases ho with rfl | rfl | rfl | rfl <;> first | exact ok_fkS | exact ok_crs | exact ok_ow _ | exact ok_and | (split <;> first | exact ok_ow _ | exact ok_not)
theorem sumF_ok (s g b : Bool) : (sumF s g b).ok := by
  intro o ho d hd
  subst hd
  cases s <;> cases g <;> cases b <;> simp [sumF] at ho <;> first | (rcases ho with rfl | rfl | rfl | rfl) | (rcases ho with rfl | rfl | rfl) | (rcases ho with rfl | rfl) | (subst ho) | skip
  all_goals first | exact ok_ow _ | exact ok_crs | exact ok_fkE | exact ok_or | exact ok_and | skip
theorem Lim.lits {r : Int} {bs : List Int} {kv : KV} {b : Nat} (h : Lim b kv) : ∀ j, Lim (b + 4 * j) (litsN r bs kv j)
  | 0 => h
  | j + 1 => by
    have := (Lim.lits (r := r) (bs := bs) h j).field (x := 2 * (j : Int)) (y := 2 * r) (lF_ok j (bs.getD j 0))
    rw [show b + 4 * (j + 1) = b + 4 * j + 4 by omega]
    exact this
theorem Lim.sums {x0 r : Int} {ss : List Int} {st : KV × List Bool} {b : Nat} (h : Lim b st.1) : ∀ j, Lim (b + 4 * j) (sumsN x0 r ss st j).1 ∧ (sumsN x0 r ss st j).2.length = st.2.length
  | 0 => ⟨h, rfl⟩
  | j + 1 => by
    obtain ⟨h1, h2⟩ := Lim.sums (x0 := x0) (r := r) (ss := ss) h j
    have := h1.field (x := x0 + 2 * (j : Int)) (y := 2 * r) (sumF_ok (decide (ss.getD j 0 = 1)) (decide (1 ∈ ss.drop (j + 1))) ((sumsN x0 r ss st j).2.getD j false))
    rw [show b + 4 * (j + 1) = b + 4 * j + 4 by omega]
    exact ⟨this, by simp only [sumsN, List.length_set]; exact h2⟩
theorem Lim.rows {L : Nat} {lines : List (List Int × List Int)} {st : KV × List Bool} {b m : Nat} (h : Lim b st.1) (hm : ∀ t ∈ lines, t.1.length + t.2.length ≤ m) : ∀ j, Lim (b + 4 * m * j) (rowsN L lines st j).1 ∧ (rowsN L lines st j).2.length = st.2.length
  | 0 => ⟨h, rfl⟩
  | j + 1 => by
    obtain ⟨h1, h2⟩ := Lim.rows (L := L) h hm j
    have hb : (lines.getD j ([], [])).1.length + (lines.getD j ([], [])).2.length ≤ m := by
      rw [List.getD_eq_getElem?_getD]
      cases e : lines[j]? with
      | none => simp
      | some t => exact hm t (List.mem_of_getElem? e)
    have h3 := Lim.lits (r := (j : Int)) (bs := (lines.getD j ([], [])).1) h1 (lines.getD j ([], [])).1.length
    have h4 := Lim.sums (x0 := 2 * (L : Int)) (r := (j : Int)) (ss := (lines.getD j ([], [])).2) (st := (litsN j (lines.getD j ([], [])).1 (rowsN L lines st j).1 (lines.getD j ([], [])).1.length, (rowsN L lines st j).2)) h3 (lines.getD j ([], [])).2.length
    refine ⟨h4.1.mono ?_, by rw [← h2]; exact h4.2⟩
    have : 4 * m * (j + 1) = 4 * m * j + 4 * m := by rw [Nat.mul_add, Nat.mul_one]
    omega
theorem Lim.line {dx dy w : Int} : ∀ (n b : Nat) (kvs : KV) (x y : Int), Lim b kvs → Lim (b + n + 1) (lineP dx dy w kvs x y n)
  | 0, b, kvs, x, y, h => h.put (ok_ow w)
  | n + 1, b, kvs, x, y, h => by
    have := Lim.line (dx := dx) (dy := dy) (w := w) n (b + 1) _ (x + dx) (y + dy) (h.put (i := x) (j := y) (ok_ow w))
    rw [show b + (n + 1) + 1 = b + 1 + n + 1 by omega]
    exact this
end Lw

set_option Elab.async false
set_option linter.all false
set_option maxRecDepth 100000
set_option maxHeartbeats 1000000
namespace Lw
open PySem L2 Ng
theorem Lim.refs {b : Nat} {kvs : KV} (h : Lim b kvs) : (Cell.dct kvs).refs = [] := dct_refs fun p hp => ⟨(h.val p hp).1.1, Nat.le_trans (h.val p hp).1.2 (by decide)⟩
theorem okS_ne {d : D} (h : okS d) : d ≠ .non ∧ pureD d = true ∧ depD d ≤ 60 ∧ ∃ x r, d = .tup (x :: r) := by
  obtain ⟨h1, ⟨x, r, rfl⟩, -⟩ := h
  exact ⟨by simp, nb_pure h1.1, Nat.le_trans h1.2 (by decide), _, _, rfl⟩
section
variable {k : Nat} {S : Store} {p : Nat} {kvs : KV} {b : Nat}
theorem wire_ok (w : Int) : callN Fs (k + 1) i_wire [.int w] S = .ok (ow w) S := by
  rw [cl_wire]
  simp [c_wire, varR, linesz_is]
/-- one turn of a field -/
theorem ist_p {x y : Int} {d : D} {ρ : Ng.Env} (hS : S[p]? = some (.dct kvs)) (hl : Lim b kvs) (hb : b < 1000000) : istO d (.ref p) (.tup [.int x, .int y]) ρ S = .nx ρ (S.set p (.dct (dPut kvs [x, y] d))) := ist_dct hS (key_xy x y) (by have := hl.len; rw [linesz_is]; omega)
theorem pf_turn {x y : Int} {f : D} {i : Int} {o : Option D} {q4 q5 : Option D} {di dj : Int} (hS : S[p]? = some (.dct kvs)) (hl : Lim b kvs) (hb : b < 1000000) (ho : ∀ d, o = some d → okS d) (h1 : i % 2 = di) (h2 : i / 2 = dj) :
    run (callN Fs k) b_put_field_1 [some (.ref p), some (.int x), some (.int y), some f, some (.int i), some (o.getD .non)] S = .nx [some (.ref p), some (.int x), some (.int y), some f, some (.int i), some (o.getD .non)] (S.set p (.dct (put1 kvs [x + di, y + dj] o))) := by
  cases o with
  | none =>
    rw [show put1 kvs [x + di, y + dj] none = kvs from rfl, set_same hS]
    simp [b_put_field_1, varR]
  | some d =>
    obtain ⟨h3, h4, h5, z, r, rfl⟩ := okS_ne (ho d rfl)
    have hi := fun ρ => ist_p (x := x + di) (y := y + dj) (d := .tup (z :: r)) (ρ := ρ) hS hl hb
    simp only [put1]
    simp [b_put_field_1, varR, linesz_is, h1, h2, hi]
theorem pfield_ok {x y : Int} {f : F4} (hS : S[p]? = some (.dct kvs)) (hl : Lim b kvs) (hb : b + 4 < 1000000) (hf : f.ok) : callN Fs (k + 1) i_put_field [.ref p, .int x, .int y, f.tp .non] S = .ok .non (S.set p (.dct (fieldP kvs x y f))) := by
  rw [cl_put_field]
  have hp := (List.getElem?_eq_some_iff.mp hS).1
  have l1 := hl.put1 (i := x) (j := y) (hf _ (.inl rfl))
  have l2 := l1.put1 (i := x + 1) (j := y) (hf _ (.inr (.inl rfl)))
  have l3 := l2.put1 (i := x) (j := y + 1) (hf _ (.inr (.inr (.inl rfl))))
  have l4 := l3.put1 (i := x + 1) (j := y + 1) (hf _ (.inr (.inr (.inr rfl))))
  have g : ∀ kv, (S.set p (.dct kv))[p]? = some (.dct kv) := fun kv => List.getElem?_set_self hp
  have t1 := pf_turn (k := k) (x := x) (y := y) (f := f.tp .non) (i := 0) (q4 := none) (q5 := none) hS hl (by omega) (hf _ (.inl rfl)) (di := 0) (dj := 0) rfl rfl
  have t2 := pf_turn (k := k) (x := x) (y := y) (f := f.tp .non) (i := 1) (q4 := none) (q5 := none) (g _) l1 (by omega) (hf _ (.inr (.inl rfl))) (di := 1) (dj := 0) rfl rfl
  have t3 := pf_turn (k := k) (x := x) (y := y) (f := f.tp .non) (i := 2) (q4 := none) (q5 := none) (g _) l2 (by omega) (hf _ (.inr (.inr (.inl rfl)))) (di := 0) (dj := 1) rfl rfl
  have t4 := pf_turn (k := k) (x := x) (y := y) (f := f.tp .non) (i := 3) (q4 := none) (q5 := none) (g _) l3 (by omega) (hf _ (.inr (.inr (.inr rfl)))) (di := 1) (dj := 1) rfl rfl
  simp only [Int.add_zero, List.set_set] at t1 t2 t3 t4
  have hfin : fin S .non (S.set p (.dct (fieldP kvs x y f))) = .ok .non (S.set p (.dct (fieldP kvs x y f))) := fin_set0 rfl (Lim.refs l4)
  rw [← hfin]
  unfold F4.tp at *
  generalize f.a.getD .non = va at *
  generalize f.b.getD .non = vb at *
  generalize f.c.getD .non = vc at *
  generalize f.d.getD .non = vd at *
  simp [c_put_field, varR, enD, forL, asgO, asgT, asgT.asgTs, t1, t2, t3, t4, fieldP]
theorem lf_turn {x y : Int} {f : D} {i : Int} {o : Option D} {n : Nat} {fs : List D} {di dj : Int} (hS : S[p]? = some (.dct kvs)) (hl : Lim b kvs) (hb : b < 1000000) (ho : ∀ d, o = some d → okS d) (ha : ∀ S, atR fs i S = .ok (o.getD (.tup [])) S) (h1 : i % 2 = di) (h2 : i / 2 = dj) :
    run (callN Fs k) b_law_field_1 [some (.ref p), some (.int x), some (.int y), some (.tup fs), some (.int i)] S = .nx [some (.ref p), some (.int x), some (.int y), some (.tup fs), some (.int i)] (S.set p (.dct (put1 kvs [x + di, y + dj] o))) := by
  cases o with
  | none =>
    rw [show put1 kvs [x + di, y + dj] none = kvs from rfl, set_same hS]
    have hn : ∀ S, cmpT .ne (.tup []) (.tup []) S = .ok false S := fun S => by
      rw [cT_neD (eqD_pure rfl rfl (by simp [depD, depDs]) (by simp [depD, depDs])), eqv_refl]; rfl
    simp only [Option.getD_none] at ha
    simp [b_law_field_1, varR, linesz_is, ha, hn]
  | some d =>
    obtain ⟨h3, h4, h5, z, r, rfl⟩ := okS_ne (ho d rfl)
    have hn : ∀ S, cmpT .ne (.tup (z :: r)) (.tup []) S = .ok true S := fun S => by
      rw [cT_neD (eqD_pure h4 rfl h5 (by simp [depD, depDs])), eqv_tup, eqvs_cn]; rfl
    have hi := fun ρ => ist_p (x := x + di) (y := y + dj) (d := .tup (z :: r)) (ρ := ρ) hS hl hb
    simp only [Option.getD_some] at ha
    simp only [put1]
    simp [b_law_field_1, varR, linesz_is, ha, hn, h1, h2, hi]
theorem lfield_ok {x y : Int} {f : F4} (hS : S[p]? = some (.dct kvs)) (hl : Lim b kvs) (hb : b + 4 < 1000000) (hf : f.ok) : callN Fs (k + 1) i_law_field [.ref p, .int x, .int y, f.tp (.tup [])] S = .ok .non (S.set p (.dct (fieldP kvs x y f))) := by
  rw [cl_law_field]
  have hp := (List.getElem?_eq_some_iff.mp hS).1
  have l1 := hl.put1 (i := x) (j := y) (hf _ (.inl rfl))
  have l2 := l1.put1 (i := x + 1) (j := y) (hf _ (.inr (.inl rfl)))
  have l3 := l2.put1 (i := x) (j := y + 1) (hf _ (.inr (.inr (.inl rfl))))
  have l4 := l3.put1 (i := x + 1) (j := y + 1) (hf _ (.inr (.inr (.inr rfl))))
  have g : ∀ kv, (S.set p (.dct kv))[p]? = some (.dct kv) := fun kv => List.getElem?_set_self hp
  have t1 := lf_turn (k := k) (x := x) (y := y) (f := .non) (n := 0) (i := 0) (fs := [f.a.getD (.tup []), f.b.getD (.tup []), f.c.getD (.tup []), f.d.getD (.tup [])]) hS hl (by omega) (hf _ (.inl rfl)) (fun S => at_0) (di := 0) (dj := 0) rfl rfl
  have t2 := lf_turn (k := k) (x := x) (y := y) (f := .non) (n := 0) (i := 1) (fs := [f.a.getD (.tup []), f.b.getD (.tup []), f.c.getD (.tup []), f.d.getD (.tup [])]) (g _) l1 (by omega) (hf _ (.inr (.inl rfl))) (fun S => at_1) (di := 1) (dj := 0) rfl rfl
  have t3 := lf_turn (k := k) (x := x) (y := y) (f := .non) (n := 0) (i := 2) (fs := [f.a.getD (.tup []), f.b.getD (.tup []), f.c.getD (.tup []), f.d.getD (.tup [])]) (g _) l2 (by omega) (hf _ (.inr (.inr (.inl rfl)))) (fun S => at_2) (di := 0) (dj := 1) rfl rfl
  have t4 := lf_turn (k := k) (x := x) (y := y) (f := .non) (n := 0) (i := 3) (fs := [f.a.getD (.tup []), f.b.getD (.tup []), f.c.getD (.tup []), f.d.getD (.tup [])]) (g _) l3 (by omega) (hf _ (.inr (.inr (.inr rfl)))) (fun S => at_3) (di := 1) (dj := 1) rfl rfl
  simp only [Int.add_zero, List.set_set] at t1 t2 t3 t4
  have hfin : fin S .non (S.set p (.dct (fieldP kvs x y f))) = .ok .non (S.set p (.dct (fieldP kvs x y f))) := fin_set0 rfl (Lim.refs l4)
  rw [← hfin]
  have hr : rngD 0 4 = [.int 0, .int 1, .int 2, .int 3] := by decide
  unfold F4.tp
  generalize f.a.getD (.tup []) = va at *
  generalize f.b.getD (.tup []) = vb at *
  generalize f.c.getD (.tup []) = vc at *
  generalize f.d.getD (.tup []) = vd at *
  simp [c_law_field, varR, hr, forL, t1, t2, t3, t4, fieldP]
theorem psum_ok (s g b : Bool) : callN Fs (k + 2) i_sum [.bl s, .bl g, .bl b] S = .ok ((sumF s g b).tp .non) S := by
  rw [cl_sum]
  have hw := fun S w => wire_ok (k := k) (S := S) w
  cases s <;> cases g <;> cases b <;> simp [c_sum, varR, linesz_is, hw, sumF, ow]
theorem lsum_ok (s g b : Bool) : callN Fs (k + 1) i_law_sum [.bl s, .bl g, .bl b] S = .ok ((sumF s g b).tp (.tup [])) S := by
  rw [cl_law_sum]
  cases s <;> cases g <;> cases b <;> simp [c_law_sum, varR, linesz_is, sumF, ow]
theorem lit_ok (i : Nat) {c : Int} (hc : c = 0 ∨ c = 1) : callN Fs (k + 2) i_literal [.int i, .int c] S = .ok ((lF i c).tp .non) S := by
  rw [cl_literal]
  have hw := fun S w => wire_ok (k := k) (S := S) w
  by_cases hi : i = 0
  · subst hi
    rcases hc with rfl | rfl <;> simp [c_literal, varR, linesz_is, hw, lF, ow]
  · have hi2 : ¬ (i : Int) = 0 := by omega
    rcases hc with rfl | rfl <;> simp [c_literal, varR, linesz_is, hw, lF, ow, hi, hi2]
theorem zero_ok (i : Nat) : callN Fs (k + 2) i_zero_literal [.int i] S = .ok ((lF i (-1)).tp .non) S := by
  rw [cl_zero_literal]
  have hw := fun S w => wire_ok (k := k) (S := S) w
  by_cases hi : i = 0
  · subst hi
    simp [c_zero_literal, varR, linesz_is, hw, lF, ow]
  · have hi2 : ¬ (i : Int) = 0 := by omega
    simp [c_zero_literal, varR, linesz_is, hw, lF, ow, hi, hi2]
theorem llit_ok (i : Nat) {c : Int} (hc : c = -1 ∨ c = 0 ∨ c = 1) : callN Fs (k + 1) i_law_literal [.int i, .int c] S = .ok ((lF i c).tp (.tup [])) S := by
  rw [cl_law_literal]
  by_cases hi : i = 0
  · subst hi
    rcases hc with rfl | rfl | rfl <;> simp [c_law_literal, varR, linesz_is, lF, ow]
  · have hi2 : ¬ (i : Int) = 0 := by omega
    rcases hc with rfl | rfl | rfl <;> simp [c_law_literal, varR, linesz_is, lF, ow, hi, hi2]
end
end Lw

set_option Elab.async false
set_option linter.all false
set_option maxRecDepth 100000
set_option maxHeartbeats 1000000
namespace Lw
open PySem L2 Ng
def Way (dx dy w : Int) : Prop := (dx = 1 ∧ dy = 0 ∧ w = 0) ∨ (dx = 0 ∧ dy = -1 ∧ w = 1) ∨ (dx = -1 ∧ dy = 0 ∧ w = 2) ∨ (dx = 0 ∧ dy = 1 ∧ w = 3)
section
variable {k : Nat} {p : Nat} {dx dy w lx ly : Int}
theorem pline_loop {a : D} (hw : Way dx dy w) : ∀ (n fuel : Nat) (x y : Int) (kvs : KV) (b : Nat) (S : Store), n < fuel → Lim b kvs → b + n + 1 < 1000000 → lx = x + n * dx → ly = y + n * dy → S[p]? = some (.dct kvs) →
    whlL (tst (callN Fs (k + 1)) (.bl true)) (run (callN Fs (k + 1)) b_put_line_1) fuel [some (.ref p), some a, some (.tup [.int lx, .int ly]), some (.int w), some (.tup [.int dx, .int dy]), some (.int x), some (.int y)] S = .ret .non (S.set p (.dct (lineP dx dy w kvs x y n)))
  | n, 0, x, y, kvs, b, S, hf, _, _, _, _, _ => by omega
  | 0, fuel + 1, x, y, kvs, b, S, hf, hl, hb, hx, hy, hS => by
    have hi := fun ρ => ist_p (x := x) (y := y) (d := ow w) (ρ := ρ) hS hl (by omega)
    have hwr := fun S => wire_ok (k := k) (S := S) w
    have e1 : lx = x := by rw [hx]; simp
    have e2 : ly = y := by rw [hy]; simp
    have he : ∀ S, cmpT .eq (.tup [.int x, .int y]) (.tup [.int lx, .int ly]) S = .ok true S := fun S => by
      have := eq_tups (S := S) [x, y] [lx, ly]
      rw [e1, e2] at this ⊢
      simp only [List.map_cons, List.map_nil, decide_true] at this
      exact cT_eqD this
    have hb1 : run (callN Fs (k + 1)) b_put_line_1 [some (.ref p), some a, some (.tup [.int lx, .int ly]), some (.int w), some (.tup [.int dx, .int dy]), some (.int x), some (.int y)] S = .ret .non (S.set p (.dct (dPut kvs [x, y] (ow w)))) := by
      simp [b_put_line_1, varR, linesz_is, hwr, hi, he]
    simp only [whlL, tst_bl, of_ok, cond_true, hb1, lineP]
  | n + 1, fuel + 1, x, y, kvs, b, S, hf, hl, hb, hx, hy, hS => by
    have hp := (List.getElem?_eq_some_iff.mp hS).1
    have hi := fun ρ => ist_p (x := x) (y := y) (d := ow w) (ρ := ρ) hS hl (by omega)
    have hwr := fun S => wire_ok (k := k) (S := S) w
    have hne : ¬ [x, y] = [lx, ly] := by
      intro e
      simp only [List.cons.injEq, and_true] at e
      rcases hw with ⟨rfl, rfl, rfl⟩ | ⟨rfl, rfl, rfl⟩ | ⟨rfl, rfl, rfl⟩ | ⟨rfl, rfl, rfl⟩ <;> omega
    have he : ∀ S, cmpT .eq (.tup [.int x, .int y]) (.tup [.int lx, .int ly]) S = .ok false S := fun S => by
      have := eq_tups (S := S) [x, y] [lx, ly]
      simp only [List.map_cons, List.map_nil, decide_eq_false hne] at this
      exact cT_eqD this
    have hb1 : run (callN Fs (k + 1)) b_put_line_1 [some (.ref p), some a, some (.tup [.int lx, .int ly]), some (.int w), some (.tup [.int dx, .int dy]), some (.int x), some (.int y)] S = .nx [some (.ref p), some a, some (.tup [.int lx, .int ly]), some (.int w), some (.tup [.int dx, .int dy]), some (.int (x + dx)), some (.int (y + dy))] (S.set p (.dct (dPut kvs [x, y] (ow w)))) := by
      simp [b_put_line_1, varR, linesz_is, hwr, hi, he]
    have ih := pline_loop (a := a) hw n fuel (x + dx) (y + dy) (dPut kvs [x, y] (ow w)) (b + 1) (S.set p (.dct (dPut kvs [x, y] (ow w)))) (by omega) (hl.put (ok_ow w)) (by omega)
      (by rw [hx]; rcases hw with ⟨rfl, rfl, rfl⟩ | ⟨rfl, rfl, rfl⟩ | ⟨rfl, rfl, rfl⟩ | ⟨rfl, rfl, rfl⟩ <;> omega) (by rw [hy]; rcases hw with ⟨rfl, rfl, rfl⟩ | ⟨rfl, rfl, rfl⟩ | ⟨rfl, rfl, rfl⟩ | ⟨rfl, rfl, rfl⟩ <;> omega) (List.getElem?_set_self hp)
    rw [List.set_set] at ih
    simp only [whlL, tst_bl, of_ok, cond_true, hb1, lineP]
    exact ih
theorem pline_ok {x y : Int} {n : Nat} {kvs : KV} {b : Nat} {S : Store} (hw : Way dx dy w) (hl : Lim b kvs) (hb : b + n + 1 < 1000000) (hx : lx = x + n * dx) (hy : ly = y + n * dy) (hS : S[p]? = some (.dct kvs)) :
    callN Fs (k + 2) i_put_line [.ref p, .tup [.int x, .int y], .tup [.int lx, .int ly], .int w] S = .ok .non (S.set p (.dct (lineP dx dy w kvs x y n))) := by
  rw [cl_put_line]
  have h1 := pline_loop (k := k) (p := p) (a := .tup [.int x, .int y]) hw n 1000000 x y kvs b S (by omega) hl hb hx hy hS
  have hfin : fin S .non (S.set p (.dct (lineP dx dy w kvs x y n))) = .ok .non (S.set p (.dct (lineP dx dy w kvs x y n))) := fin_set0 rfl (Lim.refs (Lim.line n b kvs x y hl))
  have a1 : run (callN Fs (k + 1)) (.asg (.var 4) (.ix (.tup (.cons (.tup (.cons (.int 1) (.cons (.int 0) .nil))) (.cons (.tup (.cons (.int 0) (.cons (.neg (.int 1)) .nil))) (.cons (.tup (.cons (.neg (.int 1)) (.cons (.int 0) .nil))) (.cons (.tup (.cons (.int 0) (.cons (.int 1) .nil))) .nil))))) (.var 3))) [some (.ref p), some (.tup [.int x, .int y]), some (.tup [.int lx, .int ly]), some (.int w), none, none, none] S = .nx [some (.ref p), some (.tup [.int x, .int y]), some (.tup [.int lx, .int ly]), some (.int w), some (.tup [.int dx, .int dy]), none, none] S := by
    rcases hw with ⟨rfl, rfl, rfl⟩ | ⟨rfl, rfl, rfl⟩ | ⟨rfl, rfl, rfl⟩ | ⟨rfl, rfl, rfl⟩ <;> simp [varR, linesz_is]
  have a2 : run (callN Fs (k + 1)) (.asg (.tup (.cons (.var 5) (.cons (.var 6) .nil))) (.var 1)) [some (.ref p), some (.tup [.int x, .int y]), some (.tup [.int lx, .int ly]), some (.int w), some (.tup [.int dx, .int dy]), none, none] S = .nx [some (.ref p), some (.tup [.int x, .int y]), some (.tup [.int lx, .int ly]), some (.int w), some (.tup [.int dx, .int dy]), some (.int x), some (.int y)] S := by
    simp [varR, asgO, asgT, asgT.asgTs]
  rw [c_put_line, run_seq, a1, seq_nx, run_seq, a2, seq_nx, run_seq, run_whl, h1, seq_ret, finO_ret, hfin]
theorem lline_loop {a l : D} (hw : Way dx dy w) : ∀ (n : Nat) (ds : List D) (x y : Int) (kvs : KV) (b : Nat) (S : Store) (q : Option D), ds.length = n + 1 → Lim b kvs → b + n + 1 < 1000000 → S[p]? = some (.dct kvs) →
    ∃ x' y' r, forL (ckS none) (fun d ρ S => (asgO (.var 6) d ρ S).seq (run (callN Fs k) b_law_line_1)) ds [some (.ref p), some a, some l, some (.int w), some (.int x), some (.int y), q] S = .nx [some (.ref p), some a, some l, some (.int w), some (.int x'), some (.int y'), r] (S.set p (.dct (lineP dx dy w kvs x y n)))
  | n, [], x, y, kvs, b, S, q, hd, _, _, _ => by simp at hd
  | n, d :: ds, x, y, kvs, b, S, q, hd, hl, hb, hS => by
    have hp := (List.getElem?_eq_some_iff.mp hS).1
    have hi := fun ρ => ist_p (x := x) (y := y) (d := ow w) (ρ := ρ) hS hl (by omega)
    have hb1 : run (callN Fs k) b_law_line_1 [some (.ref p), some a, some l, some (.int w), some (.int x), some (.int y), some d] S = .nx [some (.ref p), some a, some l, some (.int w), some (.int (x + dx)), some (.int (y + dy)), some d] (S.set p (.dct (dPut kvs [x, y] (ow w)))) := by
      rcases hw with ⟨rfl, rfl, rfl⟩ | ⟨rfl, rfl, rfl⟩ | ⟨rfl, rfl, rfl⟩ | ⟨rfl, rfl, rfl⟩ <;> simp [b_law_line_1, varR, linesz_is, hi]
    simp only [List.length_cons, Nat.add_right_cancel_iff] at hd
    cases n with
    | zero =>
      obtain rfl := List.length_eq_zero_iff.mp hd
      refine ⟨x + dx, y + dy, some d, ?_⟩
      simp only [forL, ckS_none, cond_true, asgO_var, seq_nx, List.set_cons_succ, List.set_cons_zero, hb1, lineP]
    | succ n =>
      obtain ⟨x', y', r, ih⟩ := lline_loop (a := a) (l := l) hw n ds (x + dx) (y + dy) (dPut kvs [x, y] (ow w)) (b + 1) (S.set p (.dct (dPut kvs [x, y] (ow w)))) (some d) hd (hl.put (ok_ow w)) (by omega) (List.getElem?_set_self hp)
      rw [List.set_set] at ih
      refine ⟨x', y', r, ?_⟩
      simp only [forL, ckS_none, cond_true, asgO_var, seq_nx, List.set_cons_succ, List.set_cons_zero, hb1, lineP]
      simpa only [asgO_var, seq_nx] using ih
theorem lline_ok {x y : Int} {n : Nat} {kvs : KV} {b : Nat} {S : Store} (hw : Way dx dy w) (hl : Lim b kvs) (hb : b + n + 1 < 1000000) (hx : lx = x + n * dx) (hy : ly = y + n * dy) (hS : S[p]? = some (.dct kvs)) :
    callN Fs (k + 1) i_law_line [.ref p, .tup [.int x, .int y], .tup [.int lx, .int ly], .int w] S = .ok .non (S.set p (.dct (lineP dx dy w kvs x y n))) := by
  rw [cl_law_line]
  obtain ⟨x', y', r, h1⟩ := lline_loop (k := k) (p := p) (a := .tup [.int x, .int y]) (l := .tup [.int lx, .int ly]) hw n (rngD 0 (n + 1)) x y kvs b S none rng_len hl hb hS
  have hfin : fin S .non (S.set p (.dct (lineP dx dy w kvs x y n))) = .ok .non (S.set p (.dct (lineP dx dy w kvs x y n))) := fin_set0 rfl (Lim.refs (Lim.line n b kvs x y hl))
  have ec : (if lx - x < 0 then -(lx - x) else lx - x) + (if ly - y < 0 then -(ly - y) else ly - y) + 1 = ((n + 1 : Nat) : Int) := by
    rcases hw with ⟨rfl, rfl, rfl⟩ | ⟨rfl, rfl, rfl⟩ | ⟨rfl, rfl, rfl⟩ | ⟨rfl, rfl, rfl⟩ <;> (split <;> split <;> omega)
  have rr : ∀ S, rngR [.int ((if lx - x < 0 then -(lx - x) else lx - x) + (if ly - y < 0 then -(ly - y) else ly - y) + 1)] S = .ok ⟨rngD 0 (n + 1), none⟩ S := fun S => by
    rw [ec, rngR1 _ (by omega)]; rfl
  simp only [asgO_var, seq_nx] at h1
  rw [← hfin]
  simp [c_law_line, varR, rr, h1]
end
end Lw

set_option Elab.async false
set_option linter.all false
set_option maxRecDepth 100000
set_option maxHeartbeats 2000000
namespace Lw
open PySem L2 Ng
theorem wE : Way 1 0 0 := .inl ⟨rfl, rfl, rfl⟩
theorem wN : Way 0 (-1) 1 := .inr (.inl ⟨rfl, rfl, rfl⟩)
theorem wW : Way (-1) 0 2 := .inr (.inr (.inl ⟨rfl, rfl, rfl⟩))
theorem wS : Way 0 1 3 := .inr (.inr (.inr ⟨rfl, rfl, rfl⟩))
/-- the five lines and the last wire -/
structure Five (kvs : KV) (s ni col bot : Nat) (k1 k2 k3 k4 k5 : KV) (b : Nat) : Prop where
  e1 : k1 = if 0 < s then lineP 0 1 3 kvs col bot (s - 1) else kvs
  e2 : k2 = lineP (-1) 0 2 k1 col ((bot : Int) + s) (col + s)
  e3 : k3 = lineP 0 (-1) 1 k2 (-1 - (s : Int)) ((bot : Int) + s) (bot + 2 * s + 1)
  e4 : k4 = lineP 1 0 0 k3 (-1 - (s : Int)) (-2 - (s : Int)) (2 * ni + 3 * s)
  e5 : k5 = lineP 0 1 3 k4 (2 * ((ni : Int) + s)) (-2 - (s : Int)) s
  l1 : Lim (b + 10) k1
  l2 : Lim (b + 200) k2
  l3 : Lim (b + 600) k3
  l4 : Lim (b + 700) k4
  l5 : Lim (b + 800) k5
theorem five {kvs : KV} {s ni col bot b : Nat} (hl : Lim b kvs) (hs : s ≤ 3) (hni : ni ≤ 3) (hc : col ≤ 100) (hb : bot ≤ 300) : ∃ k1 k2 k3 k4 k5, Five kvs s ni col bot k1 k2 k3 k4 k5 b ∧ stateP kvs s ni col bot = dPut k5 [2 * ((ni : Int) + s), -1] (.tup [.str "wire", .int 3, .int 8]) := by
  obtain ⟨k1, e1⟩ : ∃ k1, k1 = if 0 < s then lineP 0 1 3 kvs col bot (s - 1) else kvs := ⟨_, rfl⟩
  have l1 : Lim (b + 10) k1 := by
    rw [e1]
    split
    · exact (Lim.line (s - 1) b kvs col bot hl).mono (by omega)
    · exact hl.mono (by omega)
  have l2 := Lim.line (dx := -1) (dy := 0) (w := 2) (col + s) _ k1 col ((bot : Int) + s) l1
  have l3 := Lim.line (dx := 0) (dy := -1) (w := 1) (bot + 2 * s + 1) _ _ (-1 - (s : Int)) ((bot : Int) + s) l2
  have l4 := Lim.line (dx := 1) (dy := 0) (w := 0) (2 * ni + 3 * s) _ _ (-1 - (s : Int)) (-2 - (s : Int)) l3
  have l5 := Lim.line (dx := 0) (dy := 1) (w := 3) s _ _ (2 * ((ni : Int) + s)) (-2 - (s : Int)) l4
  refine ⟨k1, _, _, _, _, ⟨e1, rfl, rfl, rfl, rfl, l1, l2.mono (by omega), l3.mono (by omega), l4.mono (by omega), l5.mono (by omega)⟩, ?_⟩
  unfold stateP
  rw [← e1]
theorem Lim.state {kvs : KV} {s ni col bot b : Nat} (hl : Lim b kvs) (hs : s ≤ 3) (hni : ni ≤ 3) (hc : col ≤ 100) (hb : bot ≤ 300) : Lim (b + 801) (stateP kvs s ni col bot) := by
  obtain ⟨k1, k2, k3, k4, k5, F, e⟩ := five hl hs hni hc hb
  rw [e]
  exact F.l5.put ok_w8
section
variable {k : Nat} {p : Nat} {S : Store} {kvs : KV} {b : Nat}
theorem pstate_ok {s ni col bot : Nat} (hS : S[p]? = some (.dct kvs)) (hl : Lim b kvs) (hs : s ≤ 3) (hni : ni ≤ 3) (hc : col ≤ 100) (hb : bot ≤ 300) (hbb : b ≤ 100000) :
    callN Fs (k + 3) i_put_state [.ref p, .int s, .int ni, .int col, .int bot] S = .ok .non (S.set p (.dct (stateP kvs s ni col bot))) := by
  rw [cl_put_state]
  obtain ⟨k1, k2, k3, k4, k5, F, e⟩ := five hl hs hni hc hb
  have hp := (List.getElem?_eq_some_iff.mp hS).1
  have g : ∀ kv, (S.set p (.dct kv))[p]? = some (.dct kv) := fun kv => List.getElem?_set_self hp
  have c2 := pline_ok (k := k) (S := S.set p (.dct k1)) (lx := -(s : Int)) (ly := (bot : Int) + s) (x := (col : Int)) (y := (bot : Int) + s) (n := col + s) wW F.l1 (by omega) (by omega) (by omega) (g k1)
  rw [← F.e2, List.set_set] at c2
  have c3 := pline_ok (k := k) (S := S.set p (.dct k2)) (lx := -1 - (s : Int)) (ly := -1 - (s : Int)) (x := -1 - (s : Int)) (y := (bot : Int) + s) (n := bot + 2 * s + 1) wN F.l2 (by omega) (by omega) (by omega) (g k2)
  rw [← F.e3, List.set_set] at c3
  have c4 := pline_ok (k := k) (S := S.set p (.dct k3)) (lx := 2 * ((ni : Int) + s) - 1) (ly := -2 - (s : Int)) (x := -1 - (s : Int)) (y := -2 - (s : Int)) (n := 2 * ni + 3 * s) wE F.l3 (by omega) (by omega) (by omega) (g k3)
  rw [← F.e4, List.set_set] at c4
  have c5 := pline_ok (k := k) (S := S.set p (.dct k4)) (lx := 2 * ((ni : Int) + s)) (ly := -2) (x := 2 * ((ni : Int) + s)) (y := -2 - (s : Int)) (n := s) wS F.l4 (by omega) (by omega) (by omega) (g k4)
  rw [← F.e5, List.set_set] at c5
  have hi := fun ρ => ist_p (S := S.set p (.dct k5)) (x := 2 * ((ni : Int) + s)) (y := -1) (d := .tup [.str "wire", .int 3, .int 8]) (ρ := ρ) (g k5) F.l5 (by omega)
  simp only [List.set_set] at hi
  rw [← e] at hi
  have hfin : fin S .non (S.set p (.dct (stateP kvs s ni col bot))) = .ok .non (S.set p (.dct (stateP kvs s ni col bot))) := fin_set0 rfl (Lim.refs (Lim.state hl hs hni hc hb))
  have a1 : run (callN Fs (k + 2)) (.ite (.cmp .gt (.var 1) (.int 0)) (.seq (.ex (.call i_put_line (.cons (.var 0) (.cons (.tup (.cons (.var 3) (.cons (.var 4) .nil))) (.cons (.tup (.cons (.var 3) (.cons (.bin .sub (.bin .add (.var 4) (.var 1)) (.int 1)) .nil))) (.cons (.glb "SOUTH" (.int 3)) .nil))))))
    .skip) .skip) [some (.ref p), some (.int s), some (.int ni), some (.int col), some (.int bot), none] S = .nx [some (.ref p), some (.int s), some (.int ni), some (.int col), some (.int bot), none] (S.set p (.dct k1)) := by
    by_cases h0 : 0 < s
    · have e1 : k1 = lineP 0 1 3 kvs col bot (s - 1) := by rw [F.e1, if_pos h0]
      have c1 := pline_ok (k := k) (S := S) (p := p) (lx := (col : Int)) (ly := (bot : Int) + s - 1) (x := (col : Int)) (y := (bot : Int)) (n := s - 1) wS hl (by omega) (by omega) (by omega) hS
      rw [← e1] at c1
      have h0' : (0 : Int) < s := by omega
      simp [varR, linesz_is, h0, h0', c1]
    · have e1 : k1 = kvs := by rw [F.e1, if_neg h0]
      have h0' : ¬ (0 : Int) < s := by omega
      rw [e1, set_same hS]
      simp [varR, h0, h0']
  rw [c_put_state, run_seq, a1, seq_nx, ← hfin]
  simp [varR, linesz_is, c2, c3, c4, c5, hi]
/-- the law's lines of a state -/
theorem lstate_ok {s ni col bot : Nat} (hS : S[p]? = some (.dct kvs)) (hl : Lim b kvs) (hs : s ≤ 3) (hni : ni ≤ 3) (hc : col ≤ 100) (hb : bot ≤ 300) (hbb : b ≤ 100000) {L : Nat} (hcol : col = 2 * L + 2 * s + 1)
    {q0 q1 q3 q4 q5 q6 q7 q9 q11 q12 q13 q14 q17 q18 q19 : Option D} : run (callN Fs (k + 1)) b_law_layout_4 [q0, q1, some (.int ni), q3, q4, q5, q6, q7, some (.int L), q9, some (.ref p), q11, q12, q13, q14, some (.int bot), some (.int s), q17, q18, q19] S = .nx [q0, q1, some (.int ni), q3, q4, q5, q6, q7, some (.int L), q9, some (.ref p), q11, q12, q13, q14, some (.int bot), some (.int s), some (.int col), q18, q19] (S.set p (.dct (stateP kvs s ni col bot))) := by
  obtain ⟨k1, k2, k3, k4, k5, F, e⟩ := five hl hs hni hc hb
  have hp := (List.getElem?_eq_some_iff.mp hS).1
  have g : ∀ kv, (S.set p (.dct kv))[p]? = some (.dct kv) := fun kv => List.getElem?_set_self hp
  have c2 := lline_ok (k := k) (S := S.set p (.dct k1)) (lx := -(s : Int)) (ly := (bot : Int) + s) (x := (col : Int)) (y := (bot : Int) + s) (n := col + s) wW F.l1 (by omega) (by omega) (by omega) (g k1)
  rw [← F.e2, List.set_set] at c2
  have c3 := lline_ok (k := k) (S := S.set p (.dct k2)) (lx := -1 - (s : Int)) (ly := -1 - (s : Int)) (x := -1 - (s : Int)) (y := (bot : Int) + s) (n := bot + 2 * s + 1) wN F.l2 (by omega) (by omega) (by omega) (g k2)
  rw [← F.e3, List.set_set] at c3
  have c4 := lline_ok (k := k) (S := S.set p (.dct k3)) (lx := 2 * ((ni : Int) + s) - 1) (ly := -2 - (s : Int)) (x := -1 - (s : Int)) (y := -2 - (s : Int)) (n := 2 * ni + 3 * s) wE F.l3 (by omega) (by omega) (by omega) (g k3)
  rw [← F.e4, List.set_set] at c4
  have c5 := lline_ok (k := k) (S := S.set p (.dct k4)) (lx := 2 * ((ni : Int) + s)) (ly := -2) (x := 2 * ((ni : Int) + s)) (y := -2 - (s : Int)) (n := s) wS F.l4 (by omega) (by omega) (by omega) (g k4)
  rw [← F.e5, List.set_set] at c5
  have hi := fun ρ => ist_p (S := S.set p (.dct k5)) (x := 2 * ((ni : Int) + s)) (y := -1) (d := .tup [.str "wire", .int 3, .int 8]) (ρ := ρ) (g k5) F.l5 (by omega)
  simp only [List.set_set] at hi
  rw [← e] at hi
  have a0 : run (callN Fs (k + 1)) (.asg (.var 17) (.bin .add (.bin .add (.bin .mul (.int 2) (.var 8)) (.bin .mul (.int 2) (.var 16))) (.int 1))) [q0, q1, some (.int ni), q3, q4, q5, q6, q7, some (.int L), q9, some (.ref p), q11, q12, q13, q14, some (.int bot), some (.int s), q17, q18, q19] S = .nx [q0, q1, some (.int ni), q3, q4, q5, q6, q7, some (.int L), q9, some (.ref p), q11, q12, q13, q14, some (.int bot), some (.int s), some (.int col), q18, q19] S := by
    have : (2 * (L : Int) + 2 * (s : Int) + 1) = (col : Int) := by omega
    simp [varR, this]
  have a1 : run (callN Fs (k + 1)) (.ite (.cmp .gt (.var 16) (.int 0)) (.seq (.ex (.call i_law_line (.cons (.var 10) (.cons (.tup (.cons (.var 17) (.cons (.var 15) .nil))) (.cons (.tup (.cons (.var 17) (.cons (.bin .sub (.bin .add (.var 15) (.var 16)) (.int 1)) .nil))) (.cons (.int 3) .nil))))))
    .skip) .skip) [q0, q1, some (.int ni), q3, q4, q5, q6, q7, some (.int L), q9, some (.ref p), q11, q12, q13, q14, some (.int bot), some (.int s), some (.int col), q18, q19] S = .nx [q0, q1, some (.int ni), q3, q4, q5, q6, q7, some (.int L), q9, some (.ref p), q11, q12, q13, q14, some (.int bot), some (.int s), some (.int col), q18, q19] (S.set p (.dct k1)) := by
    by_cases h0 : 0 < s
    · have e1 : k1 = lineP 0 1 3 kvs col bot (s - 1) := by rw [F.e1, if_pos h0]
      have c1 := lline_ok (k := k) (S := S) (p := p) (lx := (col : Int)) (ly := (bot : Int) + s - 1) (x := (col : Int)) (y := (bot : Int)) (n := s - 1) wS hl (by omega) (by omega) (by omega) hS
      rw [← e1] at c1
      have h0' : (0 : Int) < s := by omega
      simp [varR, linesz_is, h0, h0', c1]
    · have e1 : k1 = kvs := by rw [F.e1, if_neg h0]
      have h0' : ¬ (0 : Int) < s := by omega
      rw [e1, set_same hS]
      simp [varR, h0, h0']
  rw [b_law_layout_4, run_seq, a0, seq_nx, run_seq, a1, seq_nx]
  simp [varR, linesz_is, c2, c3, c4, c5, hi]
end
end Lw

set_option Elab.async false
set_option linter.all false
set_option maxRecDepth 100000
set_option maxHeartbeats 2000000
namespace Lw
open PySem L2 Ng
/-- the pattern at p, the list of what has begun at n -/
def W (T : Store) (p n : Nat) (kv : KV) (bg : List Bool) : Store := (T.set p (.dct kv)).set n (.lst (bg.map D.bl))
structure WOk (T : Store) (p n : Nat) : Prop where
  hp : p < T.length
  hn : n < T.length
  ne : p ≠ n
section
variable {T : Store} {p n : Nat} {kv kv' : KV} {bg bg' : List Bool}
theorem W_p (h : WOk T p n) : (W T p n kv bg)[p]? = some (.dct kv) := by
  unfold W
  rw [List.getElem?_set_ne (Ne.symm h.ne), List.getElem?_set_self h.hp]
theorem W_n (h : WOk T p n) : (W T p n kv bg)[n]? = some (.lst (bg.map D.bl)) := by
  unfold W
  rw [List.getElem?_set_self (by simpa using h.hn)]
theorem W_o {j : Nat} (h1 : j ≠ p) (h2 : j ≠ n) : (W T p n kv bg)[j]? = T[j]? := by
  unfold W
  rw [List.getElem?_set_ne (Ne.symm h2), List.getElem?_set_ne (Ne.symm h1)]
theorem W_sp (h : WOk T p n) : (W T p n kv bg).set p (.dct kv') = W T p n kv' bg := by
  unfold W
  rw [List.set_comm _ _ (Ne.symm h.ne), List.set_set]
theorem W_sn : (W T p n kv bg).set n (.lst (bg'.map D.bl)) = W T p n kv bg' := by
  unfold W
  rw [List.set_set]
theorem W_len : (W T p n kv bg).length = T.length := by simp [W]
theorem bg_at {j : Nat} (h : j < bg.length) (S : Store) : atR (bg.map D.bl) (j : Int) S = .ok (.bl (bg.getD j false)) S := by
  refine atR_nat ?_
  rw [List.getElem?_map, List.getD_eq_getElem?_getD, List.getElem?_eq_getElem h]
  rfl
theorem int_at {xs : List Int} {j : Nat} (h : j < xs.length) (S : Store) : atR (xs.map D.int) (j : Int) S = .ok (.int (xs.getD j 0)) S := by
  refine atR_nat ?_
  rw [List.getElem?_map, List.getD_eq_getElem?_getD, List.getElem?_eq_getElem h]
  rfl
theorem bg_ist {j : Nat} {x : Bool} {ρ : Ng.Env} {S : Store} (hS : S[n]? = some (.lst (bg.map D.bl))) (h : j < bg.length) : istO (.bl x) (.ref n) (.int j) ρ S = .nx ρ (S.set n (.lst ((bg.set j x).map D.bl))) := by
  rw [istO_lst (j := j) hS (by unfold L2.ixN; simp [h]), List.map_set]
theorem goes_cut (ss : List Int) (j : Nat) (S : Store) : cmpT .in_ (.int 1) (.tup (cutD (ss.map D.int) (some ((j : Int) + 1)) none)) S = .ok (decide (1 ∈ ss.drop (j + 1))) S := by
  rw [show (j : Int) + 1 = ((j + 1 : Nat) : Int) by omega, cut_from, ← List.map_drop]
  exact has1 _
theorem goes_cutR (ss : List Int) (j : Nat) (S : Store) : cmpR .in_ (.int 1) (.tup (cutD (ss.map D.int) (some ((j : Int) + 1)) none)) S = .ok (.bl (decide (1 ∈ ss.drop (j + 1)))) S := by
  have := goes_cut ss j S
  unfold cmpT at this
  unfold cmpR
  cases h : cmp2 .in_ (.int 1) (.tup (cutD (ss.map D.int) (some ((j : Int) + 1)) none)) S with
  | none => rw [h] at this; cases this
  | some b =>
    rw [h] at this
    have := (R.ok.injEq _ _ _ _).mp this
    rw [this.1]
end
section
variable {k : Nat} {T : Store} {p n : Nat} {kv : KV} {bg : List Bool} {b : Nat}
/-- how a row of the program stands for its literals -/
def RowP (row0 : D) (bs : List Int) : Prop := (row0 = .non ∧ ∀ j, j < bs.length → bs.getD j 0 = -1) ∨ (row0 = wD bs ∧ Bits bs)
theorem plits_run {row0 row1 : D} {bs : List Int} {r : Nat} (hw : WOk T p n) (hl : Lim b kv) (hb : b + 4 * bs.length < 100000) (hrow : RowP row0 bs) {q1 q2 q3 q4 q5 q9 q10 q11 : Option D} :
    ∃ r9 r10, forL (ckS none) (fun x ρ S => (asgO (.var 9) x ρ S).seq (run (callN Fs (k + 2)) b_put_rows_2)) (rngD 0 bs.length) [some (.ref p), q1, q2, q3, q4, q5, some (.ref n), some (.int r), some (.tup [row0, row1]), q9, q10, q11] (W T p n kv bg) =
      .nx [some (.ref p), q1, q2, q3, q4, q5, some (.ref n), some (.int r), some (.tup [row0, row1]), r9, r10, q11] (W T p n (litsN r bs kv bs.length) bg) := by
  obtain ⟨ρ1, S1, e1, r9, r10, rfl, rfl, -⟩ := for_inv (ck := ckS none) (f := fun x ρ S => (asgO (.var 9) x ρ S).seq (run (callN Fs (k + 2)) b_put_rows_2)) (ds := rngD 0 bs.length) (ρ := [some (.ref p), q1, q2, q3, q4, q5, some (.ref n), some (.int r), some (.tup [row0, row1]), q9, q10, q11]) (S := W T p n kv bg)
    (fun j ρ' S' => ∃ r9 r10, ρ' = [some (.ref p), q1, q2, q3, q4, q5, some (.ref n), some (.int r), some (.tup [row0, row1]), r9, r10, q11] ∧ S' = W T p n (litsN r bs kv j) bg ∧ j ≤ bs.length)
    ⟨q9, q10, rfl, rfl, Nat.zero_le _⟩ (fun _ _ _ _ => rfl) (fun j x ρ' S' hj ⟨r9, r10, h1, h2, h3⟩ => by
      subst h1 h2
      obtain ⟨hj2, rfl⟩ := rng_at0 hj
      have hlj := Lim.lits (r := (r : Int)) (bs := bs) hl j
      have hf := pfield_ok (k := k + 1) (S := W T p n (litsN r bs kv j) bg) (x := 2 * (j : Int)) (y := 2 * (r : Int)) (f := lF j (bs.getD j 0)) (W_p hw) hlj (by omega) (lF_ok _ _)
      rw [W_sp hw] at hf
      refine ⟨_, _, ?_, some (.int j), some ((lF j (bs.getD j 0)).tp .non), rfl, rfl, by omega⟩
      have a1 : run (callN Fs (k + 2)) (.asg (.var 10) (.ite (.cmp .is (.ix (.var 8) (.int 0)) .non) (.call i_zero_literal (.cons (.var 9) .nil)) (.call i_literal (.cons (.var 9) (.cons (.ix (.ix (.var 8) (.int 0)) (.var 9)) .nil))))) [some (.ref p), q1, q2, q3, q4, q5, some (.ref n), some (.int r), some (.tup [row0, row1]), some (.int j), r10, q11] (W T p n (litsN r bs kv j) bg) =
          .nx [some (.ref p), q1, q2, q3, q4, q5, some (.ref n), some (.int r), some (.tup [row0, row1]), some (.int j), some ((lF j (bs.getD j 0)).tp .non), q11] (W T p n (litsN r bs kv j) bg) := by
        rcases hrow with ⟨rfl, hz⟩ | ⟨rfl, hbit⟩
        · have hz1 := fun S => zero_ok (k := k) (S := S) j
          rw [hz j hj2]
          simp [varR, hz1]
        · have hx := hbit (bs.getD j 0) (by rw [List.getD_eq_getElem?_getD, List.getElem?_eq_getElem hj2]; exact List.getElem_mem hj2)
          have hz1 := fun S => lit_ok (k := k) (S := S) j hx
          have ha := fun S => int_at hj2 S
          generalize bs.getD j 0 = c at *
          simp [varR, ha, hz1]
      simp only [asgO_var, seq_nx, List.set_cons_succ, List.set_cons_zero]
      rw [b_put_rows_2, run_seq, a1, seq_nx]
      generalize (lF j (bs.getD j 0)).tp .non = F at *
      simp [varR, hf]
      rfl)
  rw [rng_len] at e1
  exact ⟨r9, r10, e1⟩
theorem psums_run {row0 : D} {ss : List Int} {r L : Nat} (hw : WOk T p n) (hl : Lim b kv) (hb : b + 4 * ss.length < 100000) (hbg : bg.length = ss.length) {q1 q3 q4 q5 q9 q10 q11 : Option D} :
    ∃ r9 r10 r11, forL (ckS none) (fun x ρ S => (asgO (.var 9) x ρ S).seq (run (callN Fs (k + 2)) b_put_rows_1)) (rngD 0 ss.length) [some (.ref p), q1, some (.int L), q3, q4, q5, some (.ref n), some (.int r), some (.tup [row0, wD ss]), q9, q10, q11] (W T p n kv bg) =
      .nx [some (.ref p), q1, some (.int L), q3, q4, q5, some (.ref n), some (.int r), some (.tup [row0, wD ss]), r9, r10, r11] (W T p n (sumsN (2 * (L : Int)) r ss (kv, bg) ss.length).1 (sumsN (2 * (L : Int)) r ss (kv, bg) ss.length).2) := by
  obtain ⟨ρ1, S1, e1, r9, r10, r11, rfl, rfl, -⟩ := for_inv (ck := ckS none) (f := fun x ρ S => (asgO (.var 9) x ρ S).seq (run (callN Fs (k + 2)) b_put_rows_1)) (ds := rngD 0 ss.length) (ρ := [some (.ref p), q1, some (.int L), q3, q4, q5, some (.ref n), some (.int r), some (.tup [row0, wD ss]), q9, q10, q11]) (S := W T p n kv bg)
    (fun j ρ' S' => ∃ r9 r10 r11, ρ' = [some (.ref p), q1, some (.int L), q3, q4, q5, some (.ref n), some (.int r), some (.tup [row0, wD ss]), r9, r10, r11] ∧ S' = W T p n (sumsN (2 * (L : Int)) r ss (kv, bg) j).1 (sumsN (2 * (L : Int)) r ss (kv, bg) j).2 ∧ j ≤ ss.length)
    ⟨q9, q10, q11, rfl, rfl, Nat.zero_le _⟩ (fun _ _ _ _ => rfl) (fun j x ρ' S' hj ⟨r9, r10, r11, h1, h2, h3⟩ => by
      subst h1 h2
      obtain ⟨hj2, rfl⟩ := rng_at0 hj
      obtain ⟨hlj, hgl⟩ := Lim.sums (x0 := 2 * (L : Int)) (r := (r : Int)) (ss := ss) (st := (kv, bg)) hl j
      have hs2 : (sumsN (2 * (L : Int)) r ss (kv, bg) (j + 1)) = (fieldP (sumsN (2 * (L : Int)) r ss (kv, bg) j).1 (2 * (L : Int) + 2 * (j : Int)) (2 * (r : Int)) (sumF (decide (ss.getD j 0 = 1)) (decide (1 ∈ ss.drop (j + 1))) ((sumsN (2 * (L : Int)) r ss (kv, bg) j).2.getD j false)),
        (sumsN (2 * (L : Int)) r ss (kv, bg) j).2.set j ((sumsN (2 * (L : Int)) r ss (kv, bg) j).2.getD j false || decide (ss.getD j 0 = 1))) := rfl
      rw [hs2]
      generalize sumsN (2 * (L : Int)) r ss (kv, bg) j = st at *
      obtain ⟨kvj, bgj⟩ := st
      simp only at hlj hgl ⊢
      have hjb : j < bgj.length := by omega
      have hf := pfield_ok (k := k + 1) (S := W T p n kvj bgj) (x := 2 * (L : Int) + 2 * (j : Int)) (y := 2 * (r : Int)) (f := sumF (decide (ss.getD j 0 = 1)) (decide (1 ∈ ss.drop (j + 1))) (bgj.getD j false)) (W_p hw) hlj (by omega) (sumF_ok _ _ _)
      rw [W_sp hw] at hf
      have hsum := fun S => psum_ok (k := k) (S := S) (decide (ss.getD j 0 = 1)) (decide (1 ∈ ss.drop (j + 1))) (bgj.getD j false)
      have ha := fun S => int_at hj2 S
      have hgo := fun S => goes_cutR ss j S
      have hba := fun S => bg_at hjb S
      have hn1 : ∀ kv, (W T p n kv bgj)[n]? = some (.lst (bgj.map D.bl)) := fun kv => W_n hw
      have hst : ∀ kv ρ, istO (.bl (bgj.getD j false || decide (ss.getD j 0 = 1))) (.ref n) (.int j) ρ (W T p n kv bgj) = .nx ρ (W T p n kv (bgj.set j (bgj.getD j false || decide (ss.getD j 0 = 1)))) := fun kv ρ => by
        rw [bg_ist (W_n hw) hjb, W_sn]
      refine ⟨_, _, ?_, some (.int j), some ((sumF (decide (ss.getD j 0 = 1)) (decide (1 ∈ ss.drop (j + 1))) (bgj.getD j false)).tp .non), some (.bl (decide (1 ∈ ss.drop (j + 1)))), rfl, rfl, by omega⟩
      generalize (sumF (decide (ss.getD j 0 = 1)) (decide (1 ∈ ss.drop (j + 1))) (bgj.getD j false)).tp .non = F at *
      generalize fieldP kvj (2 * (L : Int) + 2 * (j : Int)) (2 * (r : Int)) (sumF (decide (ss.getD j 0 = 1)) (decide (1 ∈ ss.drop (j + 1))) (bgj.getD j false)) = KN at *
      generalize decide (1 ∈ ss.drop (j + 1)) = go at *
      generalize bgj.getD j false = be at *
      generalize ss.getD j 0 = c at *
      simp only [asgO_var, seq_nx, List.set_cons_succ, List.set_cons_zero]
      cases be <;> simp [b_put_rows_1, varR, ha, hgo, hsum, hba, hn1, hf, hst] <;> (simp only [Bool.true_or, Bool.false_or] at hst; first | rw [hst]; rfl | simp [hst]; rfl | rfl))
  rw [rng_len] at e1
  exact ⟨r9, r10, r11, e1⟩
end
end Lw

set_option Elab.async false
set_option linter.all false
set_option maxRecDepth 100000
set_option maxHeartbeats 2000000
namespace Lw
open PySem L2 Ng
def TsOk (ts : List (List Int × List Int)) (L S : Nat) : Prop := ∀ t ∈ ts, t.1.length = L ∧ Bits t.1 ∧ t.2.length = S
abbrev RD (ts : List (List Int × List Int)) (S : Nat) : List D := ts.map termD ++ [.tup [.non, wD (List.replicate S 1)]]
theorem tup_mul (c : Int) {m : Nat} (h1 : 1 ≤ m) (h2 : m ≤ 1000) (S : Store) : bin2 .mul (.tup [.int c]) (.int m) S = .ok (wD (List.replicate m c)) S := by
  have hf : ∀ m : Nat, (List.replicate m [D.int c]).flatten = (List.replicate m c).map D.int := by
    intro m
    induction m with
    | zero => rfl
    | succ m ih => rw [List.replicate_succ, List.flatten_cons, ih, List.replicate_succ]; rfl
  by_cases h : m = 1
  · subst h
    simp [bin2]
  · simp only [bin2]
    rw [if_pos ⟨by omega, by omega, by simp, rfl⟩]
    simp only [Int.toNat_natCast, hf]
theorem lst_mul {q : Nat} {c : D} {m : Nat} {S : Store} (hS : S[q]? = some (.lst [c])) (h2 : m ≤ 1000) : bin2 .mul (.ref q) (.int m) S = .ok (.ref S.length) (S ++ [.lst (List.replicate m c)]) := by
  have hf : ∀ m : Nat, (List.replicate m [c]).flatten = List.replicate m c := by
    intro m
    induction m with
    | zero => rfl
    | succ m ih => rw [List.replicate_succ, List.flatten_cons, ih, List.replicate_succ]; rfl
  simp only [bin2, hS]
  rw [if_pos ⟨by omega, by omega, by simp [linesz_is]; omega⟩]
  simp only [Int.toNat_natCast, hf]
section
variable {k : Nat} {T : Store} {p n : Nat} {kv : KV} {bg : List Bool} {b : Nat}
theorem row_at {ts : List (List Int × List Int)} {L S j : Nat} (h : TsOk ts L S) (hj : j < ts.length + 1) : ∃ row0, (RD ts S)[j]? = some (.tup [row0, wD ((linesL ts L S).getD j ([], [])).2]) ∧ RowP row0 ((linesL ts L S).getD j ([], [])).1 ∧ ((linesL ts L S).getD j ([], [])).1.length = L ∧ ((linesL ts L S).getD j ([], [])).2.length = S := by
  by_cases h2 : j < ts.length
  · have e1 : (linesL ts L S).getD j ([], []) = ts[j] := by
      rw [List.getD_eq_getElem?_getD, List.getElem?_append_left h2, List.getElem?_eq_getElem h2]; rfl
    obtain ⟨g1, g2, g3⟩ := h ts[j] (List.getElem_mem h2)
    refine ⟨wD ts[j].1, ?_, ?_, ?_, ?_⟩
    · rw [List.getElem?_append_left (by simpa using h2), List.getElem?_map, List.getElem?_eq_getElem h2, e1]; rfl
    · rw [e1]; exact .inr ⟨rfl, g2⟩
    · rw [e1]; exact g1
    · rw [e1]; exact g3
  · have e0 : j = ts.length := by omega
    subst e0
    have e1 : (linesL ts L S).getD ts.length ([], []) = (List.replicate L (-1), List.replicate S 1) := by
      rw [List.getD_eq_getElem?_getD, List.getElem?_append_right (Nat.le_refl _)]; simp
    refine ⟨.non, ?_, ?_, ?_, ?_⟩
    · rw [List.getElem?_append_right (by simp), e1]; simp
    · rw [e1]
      refine .inl ⟨rfl, fun j hj => ?_⟩
      simp only [List.length_replicate] at hj
      simp [List.getD_eq_getElem?_getD, List.getElem?_replicate, hj]
    · rw [e1]; simp
    · rw [e1]; simp
theorem prows_run {ts : List (List Int × List Int)} {L S m : Nat} (hw : WOk T p n) (hts : TsOk ts L S) (hLS : L + S ≤ 20) (hlen : ts.length ≤ 100) (hbg : bg.length = S) (hl : Lim b kv) (hb : b ≤ 10) (hm : T[m]? = some (.lst (RD ts S))) (hmp : m ≠ p) (hmn : m ≠ n) {q1 q5 q7 q8 q9 q10 q11 : Option D} :
    ∃ r7 r8 r9 r10 r11, forL (ckS (some (m, .lst (RD ts S)))) (fun x ρ S => (asgO (.tup (.cons (.var 7) (.cons (.var 8) .nil))) x ρ S).seq (run (callN Fs (k + 2)) b_put_rows_3)) (enD 0 (RD ts S)) [some (.ref p), q1, some (.int L), some (.int S), some (.ref m), q5, some (.ref n), q7, q8, q9, q10, q11] (W T p n kv bg) =
      .nx [some (.ref p), q1, some (.int L), some (.int S), some (.ref m), q5, some (.ref n), r7, r8, r9, r10, r11] (W T p n (rowsN L (linesL ts L S) (kv, bg) (ts.length + 1)).1 (rowsN L (linesL ts L S) (kv, bg) (ts.length + 1)).2) := by
  have hmax : ∀ t ∈ linesL ts L S, t.1.length + t.2.length ≤ 20 := fun t ht => by
    rcases List.mem_append.mp ht with ht | ht
    · obtain ⟨g1, g2, g3⟩ := hts t ht; omega
    · simp at ht; subst ht; simp; exact hLS
  have hel : (enD 0 (RD ts S)).length = ts.length + 1 := by
    have : ∀ (ds : List D) (k : Nat), (enD k ds).length = ds.length := by
      intro ds
      induction ds with
      | nil => intro k; rfl
      | cons d ds ih => intro k; simp [enD, ih]
    rw [this]; simp
  obtain ⟨ρ1, S1, e1, r7, r8, r9, r10, r11, rfl, rfl, -⟩ := for_inv (ck := ckS (some (m, .lst (RD ts S)))) (f := fun x ρ S => (asgO (.tup (.cons (.var 7) (.cons (.var 8) .nil))) x ρ S).seq (run (callN Fs (k + 2)) b_put_rows_3)) (ds := enD 0 (RD ts S)) (ρ := [some (.ref p), q1, some (.int L), some (.int S), some (.ref m), q5, some (.ref n), q7, q8, q9, q10, q11]) (S := W T p n kv bg)
    (fun j ρ' S' => ∃ r7 r8 r9 r10 r11, ρ' = [some (.ref p), q1, some (.int L), some (.int S), some (.ref m), q5, some (.ref n), r7, r8, r9, r10, r11] ∧ S' = W T p n (rowsN L (linesL ts L S) (kv, bg) j).1 (rowsN L (linesL ts L S) (kv, bg) j).2 ∧ j ≤ ts.length + 1)
    ⟨q7, q8, q9, q10, q11, rfl, rfl, Nat.zero_le _⟩ (fun j ρ' S' ⟨_, _, _, _, _, _, e, _⟩ => by
      subst e
      rw [ckS_some, W_o hmp hmn, hm]
      simp) (fun j x ρ' S' hj ⟨r7, r8, r9, r10, r11, h1, h2, h3⟩ => by
      subst h1 h2
      have hj2 : j < ts.length + 1 := by
        have := (List.getElem?_eq_some_iff.mp hj).1
        omega
      obtain ⟨row0, g1, g2, g3, g4⟩ := row_at (L := L) hts hj2
      have hx : x = .tup [.int (j : Int), .tup [row0, wD ((linesL ts L S).getD j ([], [])).2]] := by
        rw [enD_get, g1] at hj
        simp only [Option.map_some, Option.some.injEq, Nat.zero_add] at hj
        exact hj.symm
      subst hx
      obtain ⟨hlj, hgl⟩ := Lim.rows (L := L) (lines := linesL ts L S) (st := (kv, bg)) hl hmax j
      have hs2 : rowsN L (linesL ts L S) (kv, bg) (j + 1) = sumsN (2 * (L : Int)) j ((linesL ts L S).getD j ([], [])).2 (litsN j ((linesL ts L S).getD j ([], [])).1 (rowsN L (linesL ts L S) (kv, bg) j).1 ((linesL ts L S).getD j ([], [])).1.length, (rowsN L (linesL ts L S) (kv, bg) j).2) ((linesL ts L S).getD j ([], [])).2.length := rfl
      rw [hs2]
      generalize rowsN L (linesL ts L S) (kv, bg) j = st at *
      obtain ⟨kvj, bgj⟩ := st
      simp only at hlj hgl ⊢
      generalize (linesL ts L S).getD j ([], []) = t at *
      obtain ⟨bs, ss⟩ := t
      simp only at g2 g3 g4 ⊢
      have hbound : b + 4 * 20 * j ≤ 9000 := by omega
      obtain ⟨s9, s10, el⟩ := plits_run (k := k) (T := T) (r := j) (row1 := wD ss) (bg := bgj) (q1 := q1) (q2 := some (.int L)) (q3 := some (.int S)) (q4 := some (.ref m)) (q5 := q5) (q9 := r9) (q10 := r10) (q11 := r11) hw hlj (by omega) g2
      have hl2 := Lim.lits (r := (j : Int)) (bs := bs) hlj bs.length
      obtain ⟨u9, u10, u11, es⟩ := psums_run (k := k) (T := T) (r := j) (row0 := row0) (ss := ss) (L := L) (bg := bgj) (q1 := q1) (q3 := some (.int S)) (q4 := some (.ref m)) (q5 := q5) (q9 := s9) (q10 := s10) (q11 := r11) hw hl2 (by omega) (by omega)
      rw [g3] at el
      rw [g4] at es
      have rL : ∀ S', rngR [.int (L : Int)] S' = .ok ⟨rngD 0 L, none⟩ S' := fun S' => by rw [rngR1 _ (by omega)]; rfl
      have rS : ∀ S', rngR [.int (S : Int)] S' = .ok ⟨rngD 0 S, none⟩ S' := fun S' => by rw [rngR1 _ (by omega)]; rfl
      refine ⟨_, _, ?_, some (.int j), some (.tup [row0, wD ss]), u9, u10, u11, rfl, rfl, by omega⟩
      simp only [asgO_var, seq_nx] at el es
      have ha : asgO (.tup (.cons (.var 7) (.cons (.var 8) .nil))) (.tup [.int (j : Int), .tup [row0, wD ss]]) [some (.ref p), q1, some (.int L), some (.int S), some (.ref m), q5, some (.ref n), r7, r8, r9, r10, r11] (W T p n kvj bgj) = .nx [some (.ref p), q1, some (.int L), some (.int S), some (.ref m), q5, some (.ref n), some (.int j), some (.tup [row0, wD ss]), r9, r10, r11] (W T p n kvj bgj) := rfl
      rw [g3, g4, ha, seq_nx]
      simp only [b_put_rows_3, run_seq, run_for, itr_rng, evs_cons, ev_var, varR, List.getElem?_cons_zero, List.getElem?_cons_succ, bind_ok, evs_nil, rL, rS, of_ok, asgO_var, seq_nx, run_skip]
      rw [g3] at es
      rw [el, seq_nx]
      simp only [run_seq, run_for, itr_rng, evs_cons, ev_var, varR, List.getElem?_cons_zero, List.getElem?_cons_succ, bind_ok, evs_nil, rL, rS, of_ok, asgO_var, seq_nx, run_skip]
      rw [es, seq_nx, run_skip])
  rw [hel] at e1
  exact ⟨r7, r8, r9, r10, r11, e1⟩
theorem lc_terms {ts : List (List Int × List Int)} {P : Nat → List D → Store → R D} {S : Store} {t : Nat} (ht : S[t]? = some (.lst (ts.map termD))) (hlen : ts.length ≤ 100) {q0 q2 q3 q4 q5 q6 q7 q8 q9 q10 q11 : Option D} :
    ev P (.lc [5] (.var 5) (.var 1) (.bl true) (.tup (.cons (.ix (.var 5) (.int 0)) (.cons (.ix (.var 5) (.int 1)) .nil)))) [q0, some (.ref t), q2, q3, q4, q5, q6, q7, q8, q9, q10, q11] S = .ok (.ref S.length) (S ++ [.lst (ts.map termD)]) := by
  have hi : itr P (.var 1) [q0, some (.ref t), q2, q3, q4, q5, q6, q7, q8, q9, q10, q11] S = .ok ⟨ts.map termD, some (t, .lst (ts.map termD))⟩ S := by
    rw [itr_var]
    simp only [varR, List.getElem?_cons_zero, List.getElem?_cons_succ, bind_ok]
    rw [itD_lst ht]
  rw [ev_lc, hi, bind_ok, lc_pure (g := fun d => some d) (by simp; omega) (fun c => by simp only [ckS_some, get_lo ht, decide_true]) (fun d hd c => ?_)]
  · simp
  · obtain ⟨u, _, rfl⟩ := List.mem_map.mp hd
    simp [lcF, asgT, wipeE, varR, linesz_is]
theorem put_rows_ok {ts : List (List Int × List Int)} {L S' t : Nat} {S : Store} (hp : S[p]? = some (.dct kv)) (hl : Lim b kv) (hb : b ≤ 10) (ht : S[t]? = some (.lst (ts.map termD))) (hts : TsOk ts L S') (hLS : L + S' ≤ 20) (hS1 : 1 ≤ S') (hlen : ts.length ≤ 100) :
    callN Fs (k + 3) i_put_rows [.ref p, .ref t, .int L, .int S'] S = .ok (.int ((ts.length + 1 : Nat) : Int)) (S.set p (.dct (rowsN L (linesL ts L S') (kv, List.replicate S' false) (ts.length + 1)).1)) := by
  rw [cl_put_rows]
  have hpl := (List.getElem?_eq_some_iff.mp hp).1
  have hlc := lc_terms (P := callN Fs (k + 2)) ht hlen (q0 := some (.ref p)) (q2 := some (.int L)) (q3 := some (.int S')) (q4 := none) (q5 := none) (q6 := none) (q7 := none) (q8 := none) (q9 := none) (q10 := none) (q11 := none)
  have hm1 := fun S => tup_mul 1 hS1 (by omega : S' ≤ 1000) S
  have hcat : bin2 .add (.ref S.length) (.ref (S.length + 1)) (S ++ [.lst (ts.map termD), .lst [.tup [.non, wD (List.replicate S' 1)]]]) = .ok (.ref (S.length + 2)) (S ++ [.lst (ts.map termD), .lst [.tup [.non, wD (List.replicate S' 1)]], .lst (RD ts S')]) := by
    rw [b2_cat (xs := ts.map termD) (ys := [.tup [.non, wD (List.replicate S' 1)]]) (by simp) (by simp) (by simp [linesz_is]; omega)]
    simp
  have a1 : run (callN Fs (k + 2)) (.asg (.var 4) (.bin .add (.lc [5] (.var 5) (.var 1) (.bl true) (.tup (.cons (.ix (.var 5) (.int 0)) (.cons (.ix (.var 5) (.int 1)) .nil)))) (.lst (.cons (.tup (.cons .non (.cons (.bin .mul (.tup (.cons (.int 1) .nil)) (.var 3)) .nil))) .nil)))) [some (.ref p), some (.ref t), some (.int L), some (.int S'), none, none, none, none, none, none, none, none] S =
      .nx [some (.ref p), some (.ref t), some (.int L), some (.int S'), some (.ref (S.length + 2)), none, none, none, none, none, none, none] (S ++ [.lst (ts.map termD), .lst [.tup [.non, wD (List.replicate S' 1)]], .lst (RD ts S')]) := by
    rw [run_asg, ev_bin, hlc, bind_ok]
    simp [varR, linesz_is, hm1, hcat]
  have hbm : bin2 .mul (.ref (S.length + 3)) (.int S') (S ++ [.lst (ts.map termD), .lst [.tup [.non, wD (List.replicate S' 1)]], .lst (RD ts S'), .lst [.bl false]]) = .ok (.ref (S.length + 4)) (S ++ [.lst (ts.map termD), .lst [.tup [.non, wD (List.replicate S' 1)]], .lst (RD ts S'), .lst [.bl false], .lst (List.replicate S' (.bl false))]) := by
    rw [lst_mul (c := .bl false) (by simp) (by omega)]
    simp
  have a2 : run (callN Fs (k + 2)) (.asg (.var 6) (.bin .mul (.lst (.cons (.bl false) .nil)) (.var 3))) [some (.ref p), some (.ref t), some (.int L), some (.int S'), some (.ref (S.length + 2)), none, none, none, none, none, none, none] (S ++ [.lst (ts.map termD), .lst [.tup [.non, wD (List.replicate S' 1)]], .lst (RD ts S')]) =
      .nx [some (.ref p), some (.ref t), some (.int L), some (.int S'), some (.ref (S.length + 2)), none, some (.ref (S.length + 4)), none, none, none, none, none] (S ++ [.lst (ts.map termD), .lst [.tup [.non, wD (List.replicate S' 1)]], .lst (RD ts S'), .lst [.bl false], .lst (List.replicate S' (.bl false))]) := by
    simp [varR, linesz_is, hbm]
  obtain ⟨C, hC⟩ : ∃ C : Store, C = [.lst (ts.map termD), .lst [.tup [.non, wD (List.replicate S' 1)]], .lst (RD ts S'), .lst [.bl false]] := ⟨_, rfl⟩
  have hCl : C.length = 4 := by rw [hC]; rfl
  have hT : S ++ [.lst (ts.map termD), .lst [.tup [.non, wD (List.replicate S' 1)]], .lst (RD ts S'), .lst [.bl false], .lst (List.replicate S' (.bl false))] = S ++ (C ++ [.lst (List.replicate S' (.bl false))]) := by rw [hC]; rfl
  rw [hT] at a2
  have hw : WOk (S ++ (C ++ [.lst (List.replicate S' (.bl false))])) p (S.length + 4) := ⟨by simp; omega, by simp [hCl], by omega⟩
  have hW : ∀ kv bg, W (S ++ (C ++ [.lst (List.replicate S' (.bl false))])) p (S.length + 4) kv bg = S.set p (.dct kv) ++ (C ++ [.lst (bg.map D.bl)]) := fun kv bg => by
    unfold W
    rw [List.set_append_left _ _ hpl]
    have h4 : S.length + 4 = (S.set p (Cell.dct kv)).length + 4 := by simp
    rw [h4, setk, hC]
    rfl
  have hm3 : (S ++ (C ++ [Cell.lst (List.replicate S' (D.bl false))]))[S.length + 2]? = some (.lst (RD ts S')) := by rw [getk, hC]; rfl
  have hW0 : S ++ (C ++ [.lst (List.replicate S' (.bl false))]) = W (S ++ (C ++ [.lst (List.replicate S' (.bl false))])) p (S.length + 4) kv (List.replicate S' false) := by
    rw [hW, set_same hp, List.map_replicate]
  obtain ⟨r7, r8, r9, r10, r11, el⟩ := prows_run (k := k) (L := L) (bg := List.replicate S' false) hw hts hLS hlen (by simp) hl hb hm3 (by omega) (by omega) (q1 := some (.ref t)) (q5 := none) (q7 := none) (q8 := none) (q9 := none) (q10 := none) (q11 := none)
  rw [← hW0, hW] at el
  have hlim := (Lim.rows (L := L) (lines := linesL ts L S') (st := (kv, List.replicate S' false)) (m := 20) hl (fun u hu => by
    rcases List.mem_append.mp hu with hu | hu
    · obtain ⟨g1, g2, g3⟩ := hts u hu; omega
    · simp at hu; subst hu; simp; exact hLS) (ts.length + 1)).1
  have hi : itr (callN Fs (k + 2)) (.enm (.cons (.var 4) .nil)) [some (.ref p), some (.ref t), some (.int L), some (.int S'), some (.ref (S.length + 2)), none, some (.ref (S.length + 4)), none, none, none, none, none] (S ++ (C ++ [.lst (List.replicate S' (.bl false))])) = .ok ⟨enD 0 (RD ts S'), some (S.length + 2, .lst (RD ts S'))⟩ (S ++ (C ++ [.lst (List.replicate S' (.bl false))])) := by
    simp only [itr_enm, evs_cons, ev_var, varR, List.getElem?_cons_zero, List.getElem?_cons_succ, bind_ok, evs_nil]
    rw [enmR_lst hm3]
  rw [c_put_rows, run_seq, a1, seq_nx, run_seq, a2, seq_nx, run_seq, run_for, hi, of_ok]
  simp only
  rw [el, seq_nx]
  generalize (rowsN L (linesL ts L S') (kv, List.replicate S' false) (ts.length + 1)) = st at *
  have hm4 : (S.set p (.dct st.1) ++ (C ++ [Cell.lst (st.2.map D.bl)]))[S.length + 2]? = some (.lst (RD ts S')) := by
    have h4 : S.length + 2 = (S.set p (Cell.dct st.1)).length + 2 := by simp
    rw [h4, getk, hC]; rfl
  have hlen2 : biD .len [.ref (S.length + 2)] (S.set p (.dct st.1) ++ (C ++ [Cell.lst (st.2.map D.bl)])) = .ok (.int ((ts.length + 1 : Nat) : Int)) (S.set p (.dct st.1) ++ (C ++ [Cell.lst (st.2.map D.bl)])) := by
    rw [len_lst hm4]; simp
  simp only [run_seq, run_ret, ev_bi, evs_cons, ev_var, varR, List.getElem?_cons_zero, List.getElem?_cons_succ, bind_ok, evs_nil, hlen2, of_ok, seq_ret, finO_ret]
  exact fin_set rfl hlim.refs
end
end Lw

set_option Elab.async false
set_option linter.all false
set_option maxRecDepth 100000
set_option maxHeartbeats 2000000
namespace Lw
open PySem L2 Ng
/-- an instance that names one fresh dict comes out with it -/
theorem fin_insd {S : Store} {cs : List Cell} {x : Str} {fs : Nat → List (Str × D)} {kv : KV} {i j : Nat} (hi : cs[i]? = some (.ins x (fs (S.length + j)))) (hj : cs[j]? = some (.dct kv)) (hij : i ≠ j)
    (h1 : ∀ c, (Cell.ins x (fs c)).refs = [c]) (h2 : (Cell.dct kv).refs = []) (h3 : ∀ f c, (Cell.ins x (fs c)).ren f = .ins x (fs (f c))) : fin S (.ref (S.length + i)) (S ++ cs) = .ok (.ref S.length) (S ++ [.ins x (fs (S.length + 1)), .dct kv]) := by
  have gi : (S ++ cs)[S.length + i]? = some (.ins x (fs (S.length + j))) := by rw [getk, hi]
  have gj : (S ++ cs)[S.length + j]? = some (.dct kv) := by rw [getk, hj]
  have hr : reach (S ++ cs) S.length 100000 [S.length + i] [] = [S.length + i, S.length + j] := by
    rw [show (100000 : Nat) = 99998 + 1 + 1 from rfl, reach_step gi (by omega) (by simp), h1, List.append_nil, List.nil_append, reach_step gj (by omega) (by simp; omega), h2, List.append_nil, reach_nil]
    rfl
  have ri : renOf S.length [S.length + i, S.length + j] (S.length + i) = S.length := by
    unfold renOf
    rw [if_neg (by omega), List.findIdx_cons, show (S.length + i == S.length + i) = true from beq_self_eq_true _]
    rfl
  have rj : renOf S.length [S.length + i, S.length + j] (S.length + j) = S.length + 1 := by
    unfold renOf
    rw [if_neg (by omega), List.findIdx_cons, show (S.length + i == S.length + j) = false from beq_eq_false_iff_ne.mpr (by omega), List.findIdx_cons, show (S.length + j == S.length + j) = true from beq_self_eq_true _]
    rfl
  have hcr : (Cell.dct kv).ren (renOf S.length [S.length + i, S.length + j]) = .dct kv := Cell.ren_id fun n hn => by rw [h2] at hn; cases hn
  have li : S.length + i < (S ++ cs).length := (List.getElem?_eq_some_iff.mp gi).1
  have lj : S.length + j < (S ++ cs).length := (List.getElem?_eq_some_iff.mp gj).1
  rw [fin_gen (L := [S.length + i, S.length + j]) (chg_app _ _) (fun f => by rw [keepE_app]; simp) (by simp) (by simpa [D.refs] using hr) ?_]
  · simp only [List.filterMap_cons, List.filterMap_nil, gi, gj, Option.map_some, h3, hcr, rj, D.ren, ri]
    simp
  · unfold keepC
    simp only [List.flatMap_cons, List.flatMap_nil, gi, gj, h1, h2, D.refs]
    simp only [Bool.and_eq_true, decide_eq_true_eq, List.all_eq_true, Bool.or_eq_true]
    refine ⟨⟨⟨⟨⟨by simp, fun m hm => ?_⟩, fun m hm => ?_⟩, ?_⟩, fun m hm => ?_⟩, fun m hm => ?_⟩
    · simp at hm; subst hm; right; simp
    · simp at hm; subst hm; right; simp
    · simp; omega
    · simp at hm; rcases hm with rfl | rfl <;> omega
    · simp at hm; rcases hm with rfl | rfl
      · exact li
      · exact lj
abbrev loF (ins outs : List (Int × Int)) (c : Nat) : List (Str × D) := [("pattern", .ref c), ("ins", .tup (ins.map Ng.prD)), ("outs", .tup (outs.map Ng.prD))]
theorem prs_refs (l : List (Int × Int)) : D.refsL (l.map Ng.prD) = [] := by
  induction l with
  | nil => rfl
  | cons x l ih => simp [ih]
theorem lo_refs (ins outs : List (Int × Int)) (c : Nat) : (Cell.ins "Layout" (loF ins outs c)).refs = [c] := by
  simp [Cell.refs, prs_refs, D.refs]
theorem lo_ren (ins outs : List (Int × Int)) (f : Nat → Nat) (c : Nat) : (Cell.ins "Layout" (loF ins outs c)).ren f = .ins "Layout" (loF ins outs (f c)) := by
  have ht : ∀ l : List (Int × Int), D.renL f (l.map Ng.prD) = l.map Ng.prD := fun l => D.renL_id _ fun n hn => by rw [prs_refs] at hn; cases hn
  simp only [Cell.ren, loF, List.map_cons, List.map_nil, D.renL, D.ren, ht]
  rfl
section
variable {k : Nat} {Q : Store} {kv : KV} {b : Nat}
/-- the pattern lies behind Q -/
abbrev Xq (Q : Store) (kv : KV) (G : Store) : Store := Q ++ (.dct kv :: G)
theorem X_g {G : Store} : (Xq Q kv G)[Q.length]? = some (.dct kv) := by simp
theorem X_s {G : Store} {kv' : KV} : (Xq Q kv G).set Q.length (.dct kv') = Xq Q kv' G := by simp
theorem layout_new {ins outs : List (Int × Int)} {S : Store} {p : Nat} (hp : p < S.length) : callN Fs (k + 2) i_Layout_new [.ref p, .tup (ins.map Ng.prD), .tup (outs.map Ng.prD)] S = .ok (.ref S.length) (S ++ [.ins "Layout" (loF ins outs p)]) := by
  rw [cl_Layout_new]
  unfold mkR
  have hfs : ∀ (c f : Str) (d : D) (fs : List (Str × D)) (l : List Cell) ρ, fs.length < 1000 → fstO c f d (.ref S.length) ρ (S ++ .ins c fs :: l) = .nx ρ (S ++ .ins c (putD f d fs) :: l) := fun c f d fs l ρ h => by
    rw [fstO_ins (fs := fs) (by simp) h]
    simp
  have hrun : run (callN Fs k) c_Layout_init [some (.ref S.length), some (.ref p), some (.tup (ins.map Ng.prD)), some (.tup (outs.map Ng.prD))] (S ++ [.ins "Layout" []]) = .nx [some (.ref S.length), some (.ref p), some (.tup (ins.map Ng.prD)), some (.tup (outs.map Ng.prD))] (S ++ [.ins "Layout" (loF ins outs p)]) := by
    simp [c_Layout_init, varR, hfs, putD]
  have hchg : chg (S ++ [.ins "Layout" []]) (S ++ [.ins "Layout" (loF ins outs p)]) = [p] := by
    have h1 : ∀ A x y : Store, chg (A ++ x) (A ++ y) = chg x y := by
      intro A x y
      induction A with
      | nil => rfl
      | cons c A ih => simp [chg, ih]
    rw [h1]
    simp only [chg, lo_refs]
    simp
  have hfin : fin (S ++ [.ins "Layout" []]) .non (S ++ [.ins "Layout" (loF ins outs p)]) = .ok .non (S ++ [.ins "Layout" (loF ins outs p)]) := by
    unfold fin
    have hr : reach (S ++ [Cell.ins "Layout" (loF ins outs p)]) (S ++ [Cell.ins "Layout" []]).length 100000 [p] [] = [] := by
      rw [show (100000 : Nat) = 99999 + 1 from rfl, reach_skip (.inl (by simp; omega)), reach_nil]
    simp only [refs_non, List.nil_append, hchg, hr]
    rw [if_pos ?_]
    · have hk : keepE (renOf (S ++ [Cell.ins "Layout" []]).length []) (S ++ [Cell.ins "Layout" []]) (S ++ [Cell.ins "Layout" (loF ins outs p)]) = S ++ [Cell.ins "Layout" (loF ins outs p)] := by
        have h1 : ∀ (f : Nat → Nat) (A x y : Store), keepE f (A ++ x) (A ++ y) = A ++ keepE f x y := by
          intro f A x y
          induction A with
          | nil => rfl
          | cons c A ih => simp [keepE, ih]
        rw [h1]
        have h2 : renOf (S ++ [Cell.ins "Layout" []]).length [] p = p := by
          unfold renOf
          rw [if_pos (by simp; omega)]
        simp only [keepE, lo_ren, h2]
        simp
      unfold keepS
      rw [hk]
      simp [D.ren]
    · unfold keepC
      simp
      omega
  rw [cl_Layout_init, hrun, finO_nx, hfin, bind_ok, if_pos rfl]
end
end Lw

set_option Elab.async false
set_option linter.all false
set_option maxRecDepth 100000
set_option maxHeartbeats 2000000
namespace Lw
open PySem L2 Ng
theorem Lim.states {ni L bot b : Nat} {kv : KV} (h : Lim b kv) (hni : ni ≤ 3) (hL : L ≤ 20) (hb : bot ≤ 300) : ∀ j, j ≤ 4 → Lim (b + 801 * j) (statesN ni L bot kv j)
  | 0, _ => h
  | j + 1, hj => by
    have := (Lim.states h hni hL hb j (by omega)).state (s := j) (ni := ni) (col := 2 * L + 2 * j + 1) (bot := bot) (by omega) hni (by omega) hb
    rw [show b + 801 * (j + 1) = b + 801 * j + 801 by omega]
    exact this
theorem Lim.cross {x : Int} {b : Nat} {kv : KV} (h : Lim b kv) : ∀ j, Lim (b + j) (crossN x kv j)
  | 0 => h
  | j + 1 => (Lim.cross h j).put ok_crs
theorem Lim.ins {bits b : Nat} {kv : KV} (h : Lim b kv) : ∀ j, Lim (b + (2 * bits + 2) * j) (insN bits kv j)
  | 0 => h
  | j + 1 => by
    have h1 := Lim.line (dx := 0) (dy := 1) (w := 3) (bits + 1) _ _ (2 * (j : Int)) (-2 - (bits : Int)) (Lim.ins (bits := bits) h j)
    have h2 := Lim.cross (x := 2 * (j : Int)) h1 bits
    rw [show b + (2 * bits + 2) * (j + 1) = b + (2 * bits + 2) * j + (bits + 1) + 1 + bits by rw [Nat.mul_add, Nat.mul_one]; omega]
    exact h2
theorem Lim.outs : ∀ (ps : List (Int × Int)) {b : Nat} {kv : KV}, Lim b kv → Lim (b + ps.length) (outsP kv ps)
  | [], b, kv, h => h
  | p :: ps, b, kv, h => by
    have := Lim.outs ps (h.put (i := p.1) (j := p.2) (ok_ow 3))
    rw [List.length_cons, show b + (ps.length + 1) = b + 1 + ps.length by omega]
    exact this
theorem outsP_snoc (kv : KV) (ps : List (Int × Int)) (q : Int × Int) : outsP kv (ps ++ [q]) = dPut (outsP kv ps) [q.1, q.2] (ow 3) := by
  unfold outsP
  rw [List.foldl_append]
  rfl
section
variable {k : Nat} {Q : Store} {kv : KV} {b m st' : Nat} {no : Nat} {st : Int} {ni : Nat} {rows : List (Int × List Int)}
theorem states_run {bits L bot : Nat} {G : Store} (hm : MachAt Q m st ni no rows) (hni : ni ≤ 3) (hbits : bits ≤ 3) (hL : L ≤ 20) (hbot : bot ≤ 300) (hl : Lim b kv) (hb : b ≤ 10000) {q1 q2 q4 q7 q8 q9 q10 q11 : Option D} :
    ∃ r7, forL (ckS none) (fun x ρ S => (asgO (.var 7) x ρ S).seq (run (callN Fs (k + 3)) b_lay_out_4)) (rngD 0 bits) [some (.ref m), q1, q2, some (.int L), q4, some (.ref Q.length), some (.int bot), q7, q8, q9, q10, q11] (Xq Q kv G) =
      .nx [some (.ref m), q1, q2, some (.int L), q4, some (.ref Q.length), some (.int bot), r7, q8, q9, q10, q11] (Xq Q (statesN ni L bot kv bits) G) := by
  obtain ⟨ρ1, S1, e1, r7, rfl, rfl, -⟩ := for_inv (ck := ckS none) (f := fun x ρ S => (asgO (.var 7) x ρ S).seq (run (callN Fs (k + 3)) b_lay_out_4)) (ds := rngD 0 bits) (ρ := [some (.ref m), q1, q2, some (.int L), q4, some (.ref Q.length), some (.int bot), q7, q8, q9, q10, q11]) (S := Xq Q kv G)
    (fun j ρ' S' => ∃ r7, ρ' = [some (.ref m), q1, q2, some (.int L), q4, some (.ref Q.length), some (.int bot), r7, q8, q9, q10, q11] ∧ S' = Xq Q (statesN ni L bot kv j) G ∧ j ≤ bits)
    ⟨q7, rfl, rfl, Nat.zero_le _⟩ (fun _ _ _ _ => rfl) (fun j x ρ' S' hj ⟨r7, h1, h2, h3⟩ => by
      subst h1 h2
      obtain ⟨hj2, rfl⟩ := rng_at0 hj
      have hlj := Lim.states hl hni hL hbot j (by omega)
      have hp := pstate_ok (k := k) (S := Xq Q (statesN ni L bot kv j) G) (p := Q.length) (s := j) (ni := ni) (col := 2 * L + 2 * j + 1) (bot := bot) X_g hlj (by omega) hni (by omega) hbot (by omega)
      rw [X_s, show ((2 * L + 2 * j + 1 : Nat) : Int) = 2 * (L : Int) + 2 * (j : Int) + 1 by omega] at hp
      obtain ⟨r, g1, g2⟩ := (hm.app (.dct (statesN ni L bot kv j) :: G)).at_
      obtain ⟨f1, f2, f3, f4⟩ := fld_m g1
      have hs2 : statesN ni L bot kv (j + 1) = stateP (statesN ni L bot kv j) j ni (2 * L + 2 * j + 1) bot := rfl
      rw [hs2]
      refine ⟨_, _, ?_, some (.int j), rfl, rfl, by omega⟩
      simp [b_lay_out_4, varR, f2, hp])
  rw [rng_len] at e1
  exact ⟨r7, e1⟩
theorem cross_run {bits : Nat} {x : Nat} {G : Store} (hl : Lim b kv) (hb : b + bits ≤ 100000) {q0 q1 q2 q3 q4 q6 q7 q9 q10 q11 : Option D} :
    ∃ r7, forL (ckS none) (fun x ρ S => (asgO (.var 7) x ρ S).seq (run (callN Fs k) b_lay_out_2)) (rngD 0 bits) [q0, q1, q2, q3, q4, some (.ref Q.length), q6, q7, some (.int x), q9, q10, q11] (Xq Q kv G) =
      .nx [q0, q1, q2, q3, q4, some (.ref Q.length), q6, r7, some (.int x), q9, q10, q11] (Xq Q (crossN (2 * (x : Int)) kv bits) G) := by
  obtain ⟨ρ1, S1, e1, r7, rfl, rfl, -⟩ := for_inv (ck := ckS none) (f := fun x ρ S => (asgO (.var 7) x ρ S).seq (run (callN Fs k) b_lay_out_2)) (ds := rngD 0 bits) (ρ := [q0, q1, q2, q3, q4, some (.ref Q.length), q6, q7, some (.int x), q9, q10, q11]) (S := Xq Q kv G)
    (fun j ρ' S' => ∃ r7, ρ' = [q0, q1, q2, q3, q4, some (.ref Q.length), q6, r7, some (.int x), q9, q10, q11] ∧ S' = Xq Q (crossN (2 * (x : Int)) kv j) G ∧ j ≤ bits)
    ⟨q7, rfl, rfl, Nat.zero_le _⟩ (fun _ _ _ _ => rfl) (fun j z ρ' S' hj ⟨r7, h1, h2, h3⟩ => by
      subst h1 h2
      obtain ⟨hj2, rfl⟩ := rng_at0 hj
      have hlj := Lim.cross (x := 2 * (x : Int)) hl j
      have hi := fun ρ => ist_p (S := Xq Q (crossN (2 * (x : Int)) kv j) G) (x := 2 * (x : Int)) (y := -2 - (j : Int)) (d := crs) (ρ := ρ) X_g hlj (by omega)
      simp only [X_s] at hi
      refine ⟨_, _, ?_, some (.int j), rfl, rfl, by omega⟩
      simp [b_lay_out_2, varR, linesz_is, hi, crossN])
  rw [rng_len] at e1
  exact ⟨r7, e1⟩
theorem ins_run {bits : Nat} {G : Store} (hbits : bits ≤ 3) (hni : ni ≤ 3) (hl : Lim b kv) (hb : b ≤ 50000) {q0 q1 q3 q4 q6 q7 q8 q9 q10 q11 : Option D} :
    ∃ r7 r8, forL (ckS none) (fun x ρ S => (asgO (.var 8) x ρ S).seq (run (callN Fs (k + 2)) b_lay_out_3)) (rngD 0 ni) [q0, q1, some (.int bits), q3, q4, some (.ref Q.length), q6, q7, q8, q9, q10, q11] (Xq Q kv G) =
      .nx [q0, q1, some (.int bits), q3, q4, some (.ref Q.length), q6, r7, r8, q9, q10, q11] (Xq Q (insN bits kv ni) G) := by
  obtain ⟨ρ1, S1, e1, r7, r8, rfl, rfl, -⟩ := for_inv (ck := ckS none) (f := fun x ρ S => (asgO (.var 8) x ρ S).seq (run (callN Fs (k + 2)) b_lay_out_3)) (ds := rngD 0 ni) (ρ := [q0, q1, some (.int bits), q3, q4, some (.ref Q.length), q6, q7, q8, q9, q10, q11]) (S := Xq Q kv G)
    (fun j ρ' S' => ∃ r7 r8, ρ' = [q0, q1, some (.int bits), q3, q4, some (.ref Q.length), q6, r7, r8, q9, q10, q11] ∧ S' = Xq Q (insN bits kv j) G ∧ j ≤ ni)
    ⟨q7, q8, rfl, rfl, Nat.zero_le _⟩ (fun _ _ _ _ => rfl) (fun j z ρ' S' hj ⟨r7, r8, h1, h2, h3⟩ => by
      subst h1 h2
      obtain ⟨hj2, rfl⟩ := rng_at0 hj
      have hlj := Lim.ins (bits := bits) hl j
      have hbj : b + (2 * bits + 2) * j ≤ 60000 := by
        have : (2 * bits + 2) * j ≤ 8 * 3 := Nat.mul_le_mul (by omega) (by omega)
        omega
      have hline := pline_ok (k := k) (S := Xq Q (insN bits kv j) G) (p := Q.length) (x := 2 * (j : Int)) (y := -2 - (bits : Int)) (lx := 2 * (j : Int)) (ly := -1) (n := bits + 1) wS hlj (by omega) (by omega) (by omega) X_g
      rw [X_s] at hline
      have hl2 := Lim.line (dx := 0) (dy := 1) (w := 3) (bits + 1) _ _ (2 * (j : Int)) (-2 - (bits : Int)) hlj
      obtain ⟨s7, ec⟩ := cross_run (k := k + 2) (Q := Q) (x := j) (bits := bits) (G := G) hl2 (by omega) (q0 := q0) (q1 := q1) (q2 := some (.int bits)) (q3 := q3) (q4 := q4) (q6 := q6) (q7 := r7) (q9 := q9) (q10 := q10) (q11 := q11)
      simp only [asgO_var, seq_nx] at ec
      have rr : ∀ S', rngR [.int (bits : Int)] S' = .ok ⟨rngD 0 bits, none⟩ S' := fun S' => by rw [rngR1 _ (by omega)]; rfl
      refine ⟨_, _, ?_, s7, some (.int j), rfl, rfl, by omega⟩
      have a1 : run (callN Fs (k + 2)) (.ex (.call i_put_line (.cons (.var 5) (.cons (.tup (.cons (.bin .mul (.int 2) (.var 8)) (.cons (.bin .sub (.neg (.int 2)) (.var 2)) .nil))) (.cons (.tup (.cons (.bin .mul (.int 2) (.var 8)) (.cons (.neg (.int 1)) .nil))) (.cons (.glb "SOUTH" (.int 3)) .nil)))))) [q0, q1, some (.int bits), q3, q4, some (.ref Q.length), q6, r7, some (.int j), q9, q10, q11] (Xq Q (insN bits kv j) G) = .nx [q0, q1, some (.int bits), q3, q4, some (.ref Q.length), q6, r7, some (.int j), q9, q10, q11] (Xq Q (lineP 0 1 3 (insN bits kv j) (2 * (j : Int)) (-2 - (bits : Int)) (bits + 1)) G) := by
        simp only [Xq] at hline ⊢
        simp [varR, linesz_is, hline]
      simp only [asgO_var, seq_nx, List.set_cons_succ, List.set_cons_zero]
      rw [b_lay_out_3, run_seq, a1, seq_nx, run_seq, run_for]
      simp only [itr_rng, evs_cons, ev_var, varR, List.getElem?_cons_zero, List.getElem?_cons_succ, bind_ok, evs_nil, rr, of_ok, asgO_var, seq_nx]
      rw [ec, seq_nx, run_skip]
      rfl)
  rw [rng_len] at e1
  exact ⟨r7, r8, e1⟩
theorem outs_run {ps : List (Int × Int)} {G : Store} (hl : Lim b kv) (hb : b + ps.length ≤ 100000) {q0 q1 q2 q3 q4 q6 q7 q8 q9 q10 q11 : Option D} :
    ∃ r10, forL (ckS none) (fun x ρ S => (asgO (.var 10) x ρ S).seq (run (callN Fs (k + 1)) b_lay_out_1)) (ps.map Ng.prD) [q0, q1, q2, q3, q4, some (.ref Q.length), q6, q7, q8, q9, q10, q11] (Xq Q kv G) =
      .nx [q0, q1, q2, q3, q4, some (.ref Q.length), q6, q7, q8, q9, r10, q11] (Xq Q (outsP kv ps) G) := by
  obtain ⟨ρ1, S1, e1, r10, rfl, rfl, -⟩ := for_inv (ck := ckS none) (f := fun x ρ S => (asgO (.var 10) x ρ S).seq (run (callN Fs (k + 1)) b_lay_out_1)) (ds := ps.map Ng.prD) (ρ := [q0, q1, q2, q3, q4, some (.ref Q.length), q6, q7, q8, q9, q10, q11]) (S := Xq Q kv G)
    (fun j ρ' S' => ∃ r10, ρ' = [q0, q1, q2, q3, q4, some (.ref Q.length), q6, q7, q8, q9, r10, q11] ∧ S' = Xq Q (outsP kv (ps.take j)) G ∧ j ≤ ps.length)
    ⟨q10, rfl, rfl, Nat.zero_le _⟩ (fun _ _ _ _ => rfl) (fun j z ρ' S' hj ⟨r10, h1, h2, h3⟩ => by
      subst h1 h2
      rw [List.getElem?_map] at hj
      obtain ⟨q, hq, rfl⟩ := Option.map_eq_some_iff.mp hj
      have hj2 := (List.getElem?_eq_some_iff.mp hq).1
      have hlj := Lim.outs (ps.take j) hl
      rw [List.length_take, Nat.min_eq_left (by omega)] at hlj
      have hi := fun ρ => ist_p (S := Xq Q (outsP kv (ps.take j)) G) (x := q.1) (y := q.2) (d := ow 3) (ρ := ρ) X_g hlj (by omega)
      simp only [X_s] at hi
      have hw := fun S => wire_ok (k := k) (S := S) 3
      have ht : ps.take (j + 1) = ps.take j ++ [q] := by rw [List.take_succ, hq]; rfl
      refine ⟨_, _, ?_, some (Ng.prD q), rfl, rfl, by omega⟩
      rw [ht, outsP_snoc]
      simp [b_lay_out_1, varR, hw, hi])
  rw [List.length_map, List.take_length] at e1
  exact ⟨r10, e1⟩
end
end Lw

set_option Elab.async false
set_option linter.all false
set_option maxRecDepth 100000
set_option maxHeartbeats 2000000
namespace Lw
open PySem L2 Ng
theorem lc_rngF {P : Nat → List D → Store → R D} {own : List Nat} {v : Nat} {src elt : E} {ρ : Ng.Env} {S : Store} {n : Nat} {F : Nat → D} (hi : itr P src ρ S = .ok ⟨rngD 0 n, none⟩ S) (hn : n ≤ 1000)
    (hf : ∀ i, i < n → ∀ c, lcF own (.var v) (tst P (.bl true)) (ev P elt) ρ (.int (i : Nat)) (S ++ [c]) = .ok (some (F i)) (S ++ [c])) : ev P (.lc own (.var v) src (.bl true) elt) ρ S = .ok (.ref S.length) (S ++ [.lst ((List.range n).map F)]) := by
  have hr : rngD 0 n = (List.range n).map fun i : Nat => D.int (i : Nat) := by
    unfold rngD
    refine List.map_congr_left fun i _ => ?_
    rw [Int.zero_add]
  rw [ev_lc, hi, bind_ok, lc_pure (g := fun d => match d with | .int i => some (F i.toNat) | _ => none) (by simp; omega) (fun _ => rfl) (fun d hd c => ?_)]
  · have : (rngD 0 n).filterMap (fun (d : D) => match d with | .int i => some (F i.toNat) | _ => none) = (List.range n).map F := by
      rw [hr]
      induction List.range n with
      | nil => rfl
      | cons x xs ih => rw [List.map_cons, List.filterMap_cons, List.map_cons, ih]; simp
    simp only [this]
  · rw [hr] at hd
    obtain ⟨i, hi, rfl⟩ := List.mem_map.mp hd
    rw [hf i (List.mem_range.mp hi) c]
    simp
def bitsF (st : Int) (ni : Nat) : Nat := if sbN st + ni = 0 then 1 else sbN st
def tsF (rows : List (Int × List Int)) (st : Int) (ni : Nat) : List (List Int × List Int) :=
  if sbN st + ni = 0 then (TM rows ni (sbN st) rows.length).map fun t => ([0], 0 :: t.2) else TM rows ni (sbN st) rows.length
theorem tm_ok {rows : List (Int × List Int)} {st : Int} {ni no : Nat} (M : MOk st ni no rows) (sb m : Nat) : TsOk (TM rows ni sb m) (ni + sb) (sb + no) := by
  intro t ht
  unfold TM at ht
  obtain ⟨j, _, hj⟩ := List.mem_filterMap.mp ht
  unfold tmK at hj
  cases e1 : rows[j]? with
  | none => rw [e1] at hj; cases hj
  | some r =>
    cases e2 : (WS ni)[j % 2 ^ ni]? with
    | none => rw [e1, e2] at hj; cases hj
    | some w =>
      rw [e1, e2] at hj
      simp only at hj
      split at hj
      · cases hj
        have hr := M.hok r (List.mem_of_getElem? e1)
        have hw := List.mem_of_getElem? e2
        refine ⟨?_, ?_, ?_⟩
        · simp [WS_wlen _ _ hw, wordF_len]
        · intro x hx
          rcases List.mem_append.mp hx with hx | hx
          · exact WS_bits _ _ hw x hx
          · exact wordF_bits _ _ x hx
        · simp [rowW, wordF_len, hr.2.2.1]
      · cases hj
theorem rows_le {rows : List (Int × List Int)} {st : Int} {ni no : Nat} (M : MOk st ni no rows) : rows.length ≤ 64 := by
  have h8 : st * 2 ^ ni ≤ 8 * 2 ^ 3 := Int.le_trans (Int.mul_le_mul_of_nonneg_right M.hst.2 (Int.pow_nonneg (by decide))) (Int.mul_le_mul_of_nonneg_left (by exact_mod_cast Nat.pow_le_pow_right (by decide) M.hni) (by decide))
  have := M.hlen
  omega
theorem ts_ok {rows : List (Int × List Int)} {st : Int} {ni no : Nat} (M : MOk st ni no rows) : TsOk (tsF rows st ni) (ni + bitsF st ni) (bitsF st ni + no) ∧ (tsF rows st ni).length ≤ 64 ∧ 1 ≤ bitsF st ni + no ∧ bitsF st ni ≤ 3 := by
  have hl := TM_len rows ni (sbN st) rows.length
  have hr := rows_le M
  have h := tm_ok M (sbN st) rows.length
  obtain ⟨hsb, _⟩ := sbN_ok M.hst
  have hno := M.hno
  unfold tsF bitsF
  by_cases h0 : sbN st + ni = 0
  · rw [if_pos h0, if_pos h0]
    refine ⟨fun t ht => ?_, by simp; omega, by omega, by decide⟩
    obtain ⟨u, hu, rfl⟩ := List.mem_map.mp ht
    obtain ⟨g1, g2, g3⟩ := h u hu
    refine ⟨by simp; omega, fun x hx => by simp at hx; exact .inl hx, by simp; omega⟩
  · rw [if_neg h0, if_neg h0]
    exact ⟨h, by omega, by omega, hsb⟩
def restL : C := (.seq (.asg (.var 3) (.bin .add (.fld "Machine" "inputs" (.var 0)) (.var 2)))
    (.seq (.asg (.var 4) (.bin .add (.var 2) (.fld "Machine" "outputs" (.var 0))))
    (.seq (.asg (.var 5) .dd0)
    (.seq (.asg (.var 6) (.bin .mul (.int 2) (.call i_put_rows (.cons (.var 5) (.cons (.var 1) (.cons (.var 3) (.cons (.var 4) .nil)))))))
    (.seq (.for (.var 7) (.rng (.cons (.var 2) .nil)) b_lay_out_4)
    (.seq (.for (.var 8) (.rng (.cons (.fld "Machine" "inputs" (.var 0)) .nil)) b_lay_out_3)
    (.seq (.asg (.var 9) (.bi .tuple (.cons (.lc [8] (.var 8) (.rng (.cons (.fld "Machine" "outputs" (.var 0)) .nil)) (.bl true) (.tup (.cons (.bin .add (.bin .add (.bin .mul (.int 2) (.var 3)) (.bin .mul (.int 2) (.bin .add (.var 2) (.var 8)))) (.int 1)) (.cons (.var 6) .nil)))) .nil)))
    (.seq (.for (.var 10) (.var 9) b_lay_out_1)
    (.seq (.asg (.var 11) (.bi .tuple (.cons (.lc [8] (.var 8) (.rng (.cons (.fld "Machine" "inputs" (.var 0)) .nil)) (.bl true) (.tup (.cons (.bin .mul (.int 2) (.var 8)) (.cons (.bin .sub (.neg (.int 2)) (.var 2)) .nil)))) .nil)))
    (.seq (.ret (.call i_Layout_new (.cons (.var 5) (.cons (.var 11) (.cons (.var 9) .nil)))))
    .skip))))))))))
theorem lim0 : Lim 0 [] := ⟨Nat.le_refl _, (fun p hp => by cases hp), by simp, (fun p hp => by cases hp)⟩
theorem layP_lim {ts : List (List Int × List Int)} {ni no bits : Nat} (hts : TsOk ts (ni + bits) (bits + no)) (hlen : ts.length ≤ 64) (hni : ni ≤ 3) (hno : no ≤ 3) (hbits : bits ≤ 3) :
    Lim 5280 (rowsN (ni + bits) (linesL ts (ni + bits) (bits + no)) ([], List.replicate (bits + no) false) (ts.length + 1)).1 ∧
    Lim 8000 (statesN ni (ni + bits) (2 * (ts.length + 1)) (rowsN (ni + bits) (linesL ts (ni + bits) (bits + no)) ([], List.replicate (bits + no) false) (ts.length + 1)).1 bits) ∧
    Lim 9000 (insN bits (statesN ni (ni + bits) (2 * (ts.length + 1)) (rowsN (ni + bits) (linesL ts (ni + bits) (bits + no)) ([], List.replicate (bits + no) false) (ts.length + 1)).1 bits) ni) ∧ Lim 10000 (layP ts ni no bits) := by
  have h1 := (Lim.rows (L := ni + bits) (lines := linesL ts (ni + bits) (bits + no)) (st := ([], List.replicate (bits + no) false)) (m := 20) lim0 (fun u hu => by
    rcases List.mem_append.mp hu with hu | hu
    · obtain ⟨g1, g2, g3⟩ := hts u hu; omega
    · simp at hu; subst hu; simp; omega) (ts.length + 1)).1
  have h1' := h1.mono (c := 5280) (by omega)
  have h2 := Lim.states (ni := ni) (L := ni + bits) (bot := 2 * (ts.length + 1)) h1' hni (by omega) (by omega) bits (by omega)
  have h2' := h2.mono (c := 8000) (by omega)
  have h3 := Lim.ins (bits := bits) h2' ni
  have hb : (2 * bits + 2) * ni ≤ 8 * 3 := Nat.mul_le_mul (by omega) hni
  have h3' := h3.mono (c := 9000) (by omega)
  have h4 := Lim.outs (outL (ni + bits) bits (2 * (ts.length + 1)) no) h3'
  exact ⟨h1', h2', h3', h4.mono (by simp [outL]; omega)⟩
section
variable {k : Nat} {Q : Store} {m t : Nat} {no : Nat} {st : Int} {ni : Nat} {rows : List (Int × List Int)}
theorem rest_run {ts : List (List Int × List Int)} {bits : Nat} (hm : MachAt Q m st ni no rows) (ht : Q[t]? = some (.lst (ts.map termD))) (hts : TsOk ts (ni + bits) (bits + no)) (hlen : ts.length ≤ 64) (hni : ni ≤ 3) (hno : 1 ≤ no ∧ no ≤ 3) (hbits : bits ≤ 3) :
    ∃ G : Store, G.length = 2 ∧ run (callN Fs (k + 4)) restL [some (.ref m), some (.ref t), some (.int bits), none, none, none, none, none, none, none, none, none] Q =
      .ret (.ref (Q.length + 3)) (Xq Q (layP ts ni no bits) (G ++ [.ins "Layout" (loF (inL ni bits) (outL (ni + bits) bits (2 * (ts.length + 1)) no) Q.length)])) := by
  obtain ⟨l1, l2, l3, l4⟩ := layP_lim hts hlen hni hno.2 hbits
  have fm : ∀ l, fldR "Machine" "inputs" (.ref m) (Q ++ l) = .ok (.int ni) (Q ++ l) ∧ fldR "Machine" "outputs" (.ref m) (Q ++ l) = .ok (.int no) (Q ++ l) := fun l => by
    obtain ⟨r, g1, g2⟩ := (hm.app l).at_
    obtain ⟨f1, f2, f3, f4⟩ := fld_m g1
    exact ⟨f2, f3⟩
  have fm0 := fm []
  rw [List.append_nil] at fm0
  have hpr := put_rows_ok (k := k + 1) (S := Xq Q [] []) (p := Q.length) (t := t) (kv := []) (L := ni + bits) (S' := bits + no) X_g lim0 (by omega) (get_lo ht) hts (by omega) (by omega) (by omega)
  rw [X_s] at hpr
  unfold layP at *
  generalize (rowsN (ni + bits) (linesL ts (ni + bits) (bits + no)) ([], List.replicate (bits + no) false) (ts.length + 1)).1 = K1 at *
  obtain ⟨r7, eS⟩ := states_run (k := k + 1) (Q := Q) (m := m) (L := ni + bits) (bot := 2 * (ts.length + 1)) (G := []) (bits := bits) hm hni hbits (by omega) (by omega) l1 (by omega) (q1 := some (.ref t)) (q2 := some (.int bits)) (q4 := some (.int ((bits : Int) + no))) (q7 := none) (q8 := none) (q9 := none) (q10 := none) (q11 := none)
  generalize statesN ni (ni + bits) (2 * (ts.length + 1)) K1 bits = K2 at *
  obtain ⟨s7, s8, eI⟩ := ins_run (k := k + 2) (Q := Q) (bits := bits) (ni := ni) (G := []) hbits hni l2 (by omega) (q0 := some (.ref m)) (q1 := some (.ref t)) (q3 := some (.int ((ni + bits : Nat) : Int))) (q4 := some (.int ((bits : Int) + no))) (q6 := some (.int ((2 * (ts.length + 1) : Nat) : Int))) (q7 := r7) (q8 := none) (q9 := none) (q10 := none) (q11 := none)
  generalize insN bits K2 ni = K3 at *
  generalize hpo : outL (ni + bits) bits (2 * (ts.length + 1)) no = po at *
  have hpol : po.length = no := by rw [← hpo]; simp [outL]
  obtain ⟨r10, eO⟩ := outs_run (k := k + 3) (Q := Q) (ps := po) (G := [.lst (po.map Ng.prD)]) l3 (by omega) (q0 := some (.ref m)) (q1 := some (.ref t)) (q2 := some (.int bits)) (q3 := some (.int ((ni + bits : Nat) : Int))) (q4 := some (.int ((bits : Int) + no))) (q6 := some (.int ((2 * (ts.length + 1) : Nat) : Int))) (q7 := s7) (q8 := s8) (q9 := some (.tup (po.map Ng.prD))) (q10 := none) (q11 := none)
  have rr : ∀ (n : Nat) S', n ≤ 100 → rngR [.int (n : Int)] S' = .ok ⟨rngD 0 n, none⟩ S' := fun n S' h => by rw [rngR1 _ (by omega)]; rfl
  have lcO : ev (callN Fs (k + 4)) (.lc [8] (.var 8) (.rng (.cons (.fld "Machine" "outputs" (.var 0)) .nil)) (.bl true) (.tup (.cons (.bin .add (.bin .add (.bin .mul (.int 2) (.var 3)) (.bin .mul (.int 2) (.bin .add (.var 2) (.var 8)))) (.int 1)) (.cons (.var 6) .nil)))) [some (.ref m), some (.ref t), some (.int bits), some (.int ((ni + bits : Nat) : Int)), some (.int ((bits : Int) + no)), some (.ref Q.length), some (.int ((2 * (ts.length + 1) : Nat) : Int)), s7, s8, none, none, none] (Xq Q K3 []) =
      .ok (.ref (Q.length + 1)) (Xq Q K3 [.lst (po.map Ng.prD)]) := by
    rw [lc_rngF (n := no) (F := fun i => Ng.prD (2 * ((ni + bits : Nat) : Int) + 2 * ((bits : Int) + i) + 1, ((2 * (ts.length + 1) : Nat) : Int))) ?_ (by omega) (fun i hi c => ?_)]
    · rw [← hpo]; simp [outL]
    · have := (fm (.dct K3 :: [])).2
      simp [varR, this, rr no _ (by omega)]
    · simp [lcF, asgT, wipeE, varR, linesz_is]
  have lcI : ev (callN Fs (k + 4)) (.lc [8] (.var 8) (.rng (.cons (.fld "Machine" "inputs" (.var 0)) .nil)) (.bl true) (.tup (.cons (.bin .mul (.int 2) (.var 8)) (.cons (.bin .sub (.neg (.int 2)) (.var 2)) .nil)))) [some (.ref m), some (.ref t), some (.int bits), some (.int ((ni + bits : Nat) : Int)), some (.int ((bits : Int) + no)), some (.ref Q.length), some (.int ((2 * (ts.length + 1) : Nat) : Int)), s7, s8, some (.tup (po.map Ng.prD)), r10, none] (Xq Q (outsP K3 po) [.lst (po.map Ng.prD)]) =
      .ok (.ref (Q.length + 2)) (Xq Q (outsP K3 po) [.lst (po.map Ng.prD), .lst ((inL ni bits).map Ng.prD)]) := by
    rw [lc_rngF (n := ni) (F := fun i => Ng.prD (2 * (i : Int), -2 - (bits : Int))) ?_ (by omega) (fun i hi c => ?_)]
    · simp [inL]
    · have := (fm (.dct (outsP K3 po) :: [.lst (po.map Ng.prD)])).1
      simp [varR, this, rr ni _ (by omega)]
    · simp [lcF, asgT, wipeE, varR, linesz_is]
  have hln := layout_new (k := k + 2) (ins := inL ni bits) (outs := po) (S := Xq Q (outsP K3 po) [.lst (po.map Ng.prD), .lst ((inL ni bits).map Ng.prD)]) (p := Q.length) (by simp)
  have hXl : (Xq Q (outsP K3 po) [.lst (po.map Ng.prD), .lst ((inL ni bits).map Ng.prD)]).length = Q.length + 3 := by simp
  rw [hXl] at hln
  refine ⟨[.lst (po.map Ng.prD), .lst ((inL ni bits).map Ng.prD)], rfl, ?_⟩
  have a1 : run (callN Fs (k + 4)) (.asg (.var 3) (.bin .add (.fld "Machine" "inputs" (.var 0)) (.var 2))) [some (.ref m), some (.ref t), some (.int bits), none, none, none, none, none, none, none, none, none] Q = .nx [some (.ref m), some (.ref t), some (.int bits), some (.int ((ni + bits : Nat) : Int)), none, none, none, none, none, none, none, none] Q := by
    simp [varR, fm0.1]
  have a2 : run (callN Fs (k + 4)) (.asg (.var 4) (.bin .add (.var 2) (.fld "Machine" "outputs" (.var 0)))) [some (.ref m), some (.ref t), some (.int bits), some (.int ((ni + bits : Nat) : Int)), none, none, none, none, none, none, none, none] Q = .nx [some (.ref m), some (.ref t), some (.int bits), some (.int ((ni + bits : Nat) : Int)), some (.int ((bits : Int) + no)), none, none, none, none, none, none, none] Q := by
    simp [varR, fm0.2]
  have a3 : run (callN Fs (k + 4)) (.asg (.var 5) .dd0) [some (.ref m), some (.ref t), some (.int bits), some (.int ((ni + bits : Nat) : Int)), some (.int ((bits : Int) + no)), none, none, none, none, none, none, none] Q = .nx [some (.ref m), some (.ref t), some (.int bits), some (.int ((ni + bits : Nat) : Int)), some (.int ((bits : Int) + no)), some (.ref Q.length), none, none, none, none, none, none] (Xq Q [] []) := by
    simp [varR]
  have a4 : run (callN Fs (k + 4)) (.asg (.var 6) (.bin .mul (.int 2) (.call i_put_rows (.cons (.var 5) (.cons (.var 1) (.cons (.var 3) (.cons (.var 4) .nil))))))) [some (.ref m), some (.ref t), some (.int bits), some (.int ((ni + bits : Nat) : Int)), some (.int ((bits : Int) + no)), some (.ref Q.length), none, none, none, none, none, none] (Xq Q [] []) = .nx [some (.ref m), some (.ref t), some (.int bits), some (.int ((ni + bits : Nat) : Int)), some (.int ((bits : Int) + no)), some (.ref Q.length), some (.int ((2 * (ts.length + 1) : Nat) : Int)), none, none, none, none, none] (Xq Q K1 []) := by
    have e2 : (bits : Int) + no = ((bits + no : Nat) : Int) := by omega
    have e3 : ((2 * (ts.length + 1) : Nat) : Int) = 2 * ((ts.length + 1 : Nat) : Int) := by omega
    rw [e2, e3]
    generalize ((bits + no : Nat) : Int) = x1 at *
    generalize ((ni + bits : Nat) : Int) = x2 at *
    generalize ((ts.length + 1 : Nat) : Int) = x3 at *
    simp only [Xq] at hpr ⊢
    simp [varR, hpr]
  unfold restL
  rw [run_seq, a1, seq_nx, run_seq, a2, seq_nx, run_seq, a3, seq_nx, run_seq, a4, seq_nx, run_seq, run_for]
  have i1 : itr (callN Fs (k + 4)) (.rng (.cons (.var 2) .nil)) [some (.ref m), some (.ref t), some (.int bits), some (.int ((ni + bits : Nat) : Int)), some (.int ((bits : Int) + no)), some (.ref Q.length), some (.int ((2 * (ts.length + 1) : Nat) : Int)), none, none, none, none, none] (Xq Q K1 []) = .ok ⟨rngD 0 bits, none⟩ (Xq Q K1 []) := by
    simp [varR, rr bits _ (by omega)]
  rw [i1, of_ok]
  simp only
  rw [eS, seq_nx, run_seq, run_for]
  have i2 : itr (callN Fs (k + 4)) (.rng (.cons (.fld "Machine" "inputs" (.var 0)) .nil)) [some (.ref m), some (.ref t), some (.int bits), some (.int ((ni + bits : Nat) : Int)), some (.int ((bits : Int) + no)), some (.ref Q.length), some (.int ((2 * (ts.length + 1) : Nat) : Int)), r7, none, none, none, none] (Xq Q K2 []) = .ok ⟨rngD 0 ni, none⟩ (Xq Q K2 []) := by
    have := (fm (.dct K2 :: [])).1
    simp [varR, this, rr ni _ (by omega)]
  rw [i2, of_ok]
  simp only
  rw [eI, seq_nx, run_seq, run_asg, ev_bi, evs_cons, lcO, bind_ok, evs_nil, bind_ok, bind_ok, bi_tuple_lst (ds := po.map Ng.prD) (by simp), of_ok, asgO_var, seq_nx]
  simp only [List.set_cons_succ, List.set_cons_zero]
  rw [run_seq, run_for, itr_var]
  simp only [varR, List.getElem?_cons_zero, List.getElem?_cons_succ, bind_ok, itD_tup, of_ok]
  rw [eO, seq_nx, run_seq, run_asg, ev_bi, evs_cons, lcI, bind_ok, evs_nil, bind_ok, bind_ok, bi_tuple_lst (ds := (inL ni bits).map Ng.prD) (by simp), of_ok, asgO_var, seq_nx]
  simp only [List.set_cons_succ, List.set_cons_zero]
  simp only [Xq] at hln ⊢
  simp [varR, hln]
end
end Lw

set_option Elab.async false
set_option linter.all false
set_option maxRecDepth 100000
set_option maxHeartbeats 2000000
namespace Lw
open PySem L2 Ng
theorem ren_terms (ts : List (List Int × List Int)) : D.refsL (ts.map termD) = [] := refs_terms ts
section
variable {k : Nat} {S : Store} {m : Nat} {no : Nat} {st : Int} {ni : Nat} {rows : List (Int × List Int)}
abbrev layL (rows : List (Int × List Int)) (st : Int) (ni no : Nat) : KV := layP (tsF rows st ni) ni no (bitsF st ni)
abbrev layI (st : Int) (ni : Nat) : List (Int × Int) := inL ni (bitsF st ni)
abbrev layO (rows : List (Int × List Int)) (st : Int) (ni no : Nat) : List (Int × Int) := outL (ni + bitsF st ni) (bitsF st ni) (2 * ((tsF rows st ni).length + 1)) no
theorem lay_ok (M : MOk st ni no rows) (hm : MachAt S m st ni no rows) :
    callN Fs (k + 5) i_lay_out [.ref m] S = .ok (.ref S.length) (S ++ [.ins "Layout" (loF (layI st ni) (layO rows st ni no) (S.length + 1)), .dct (layL rows st ni no)]) := by
  rw [cl_lay_out]
  obtain ⟨hts, hlen, hs1, hb3⟩ := ts_ok M
  have hpl := plane_ok (k := k) M hm
  have hsb := fun S => state_bits_ok (k := k + 3) (S := S) (m := m) (st := st) (ni := ni) (no := no) (rows := rows)
  obtain ⟨hlim1, hlim2, hlim3, hlim⟩ := layP_lim hts hlen M.hni M.hno.2 hb3
  have hc : c_lay_out = .seq (.asg (.var 1) (.call i_plane (.cons (.var 0) .nil)))
    (.seq (.asg (.var 2) (.call i_state_bits (.cons (.var 0) .nil)))
    (.seq (.ite (.cmp .eq (.bin .add (.var 2) (.fld "Machine" "inputs" (.var 0))) (.int 0)) (.seq (.asg (.var 2) (.int 1))
    (.seq (.asg (.var 1) (.lc [3, 4] (.tup (.cons (.var 3) (.cons (.var 4) .nil))) (.var 1) (.bl true) (.tup (.cons (.tup (.cons (.int 0) .nil)) (.cons (.bin .add (.tup (.cons (.int 0) .nil)) (.var 4)) .nil)))))
    .skip)) .skip) restL)) := rfl
  obtain ⟨T0, hT0⟩ : ∃ T0, T0 = TM rows ni (sbN st) rows.length := ⟨_, rfl⟩
  have hT0l : T0.length ≤ 64 := by rw [hT0]; exact Nat.le_trans (TM_len _ _ _ _) (rows_le M)
  rw [← hT0] at hpl
  have hm1 := hm.app [.lst (T0.map termD)]
  obtain ⟨r, g1, g2⟩ := hm1.at_
  obtain ⟨f1, f2, f3, f4⟩ := fld_m g1
  have a1 : run (callN Fs (k + 4)) (.asg (.var 1) (.call i_plane (.cons (.var 0) .nil))) [some (.ref m), none, none, none, none, none, none, none, none, none, none, none] S = .nx [some (.ref m), some (.ref S.length), none, none, none, none, none, none, none, none, none, none] (S ++ [.lst (T0.map termD)]) := by
    simp [varR, hpl]
  have a2 : run (callN Fs (k + 4)) (.asg (.var 2) (.call i_state_bits (.cons (.var 0) .nil))) [some (.ref m), some (.ref S.length), none, none, none, none, none, none, none, none, none, none] (S ++ [.lst (T0.map termD)]) = .nx [some (.ref m), some (.ref S.length), some (.int (sbN st : Nat)), none, none, none, none, none, none, none, none, none] (S ++ [.lst (T0.map termD)]) := by
    simp [varR, hsb _ hm1]
  obtain ⟨l, t, a3, ht, hL⟩ : ∃ (l : Store) (t : Nat), run (callN Fs (k + 4)) (.ite (.cmp .eq (.bin .add (.var 2) (.fld "Machine" "inputs" (.var 0))) (.int 0)) (.seq (.asg (.var 2) (.int 1))
    (.seq (.asg (.var 1) (.lc [3, 4] (.tup (.cons (.var 3) (.cons (.var 4) .nil))) (.var 1) (.bl true) (.tup (.cons (.tup (.cons (.int 0) .nil)) (.cons (.bin .add (.tup (.cons (.int 0) .nil)) (.var 4)) .nil)))))
    .skip)) .skip) [some (.ref m), some (.ref S.length), some (.int (sbN st : Nat)), none, none, none, none, none, none, none, none, none] (S ++ [.lst (T0.map termD)]) = .nx [some (.ref m), some (.ref t), some (.int (bitsF st ni : Nat)), none, none, none, none, none, none, none, none, none] (S ++ l) ∧ (S ++ l)[t]? = some (.lst ((tsF rows st ni).map termD)) ∧ True := by
    by_cases h0 : sbN st + ni = 0
    · have e1 : bitsF st ni = 1 := by unfold bitsF; rw [if_pos h0]
      have e2 : tsF rows st ni = T0.map fun t => ([0], 0 :: t.2) := by unfold tsF; rw [if_pos h0, hT0]
      have h0' : ((sbN st : Nat) : Int) + ni = 0 := by omega
      have hlc : ev (callN Fs (k + 4)) (.lc [3, 4] (.tup (.cons (.var 3) (.cons (.var 4) .nil))) (.var 1) (.bl true) (.tup (.cons (.tup (.cons (.int 0) .nil)) (.cons (.bin .add (.tup (.cons (.int 0) .nil)) (.var 4)) .nil)))) [some (.ref m), some (.ref S.length), some (.int 1), none, none, none, none, none, none, none, none, none] (S ++ [.lst (T0.map termD)]) = .ok (.ref (S.length + 1)) (S ++ [.lst (T0.map termD), .lst ((tsF rows st ni).map termD)]) := by
        have hi : itr (callN Fs (k + 4)) (.var 1) [some (.ref m), some (.ref S.length), some (.int 1), none, none, none, none, none, none, none, none, none] (S ++ [.lst (T0.map termD)]) = .ok ⟨T0.map termD, some (S.length, .lst (T0.map termD))⟩ (S ++ [.lst (T0.map termD)]) := by
          rw [itr_var]
          simp only [varR, List.getElem?_cons_zero, List.getElem?_cons_succ, bind_ok]
          rw [itD_lst (ds := T0.map termD) (by simp)]
        rw [ev_lc, hi, bind_ok, lc_pure (g := fun d => match d with | .tup [a, .tup b] => some (.tup [.tup [.int 0], .tup (.int 0 :: b)]) | _ => none) (by simp; omega) (fun c => by simp) (fun d hd c => ?_)]
        · have e3 : (T0.map termD).filterMap (fun (d : D) => match d with | .tup [a, .tup b] => some (D.tup [.tup [.int 0], .tup (.int 0 :: b)]) | _ => none) = (tsF rows st ni).map termD := by
            rw [e2]
            clear hpl hT0 hT0l hm1 g1 g2 f1 f2 f3 f4 a1 a2 hi e2
            induction T0 with
            | nil => rfl
            | cons x xs ih =>
              rw [List.map_cons, List.filterMap_cons, List.map_cons, List.map_cons, ← ih]
              rfl
          simp only [e3]
          simp
        · obtain ⟨u, hu, rfl⟩ := List.mem_map.mp hd
          have hul : u.2.length ≤ 100 := by
            rw [hT0] at hu
            obtain ⟨q1, q2, q3⟩ := tm_ok M (sbN st) rows.length u hu
            have := (sbN_ok M.hst).1
            have := M.hno
            omega
          have hcat : ∀ S, bin2 .add (.tup [.int 0]) (.tup (u.2.map D.int)) S = .ok (.tup (.int 0 :: u.2.map D.int)) S := fun S => by
            rw [b2_tcat (by simp [linesz_is]; omega)]; rfl
          simp [lcF, asgT, asgT.asgTs, wipeE, varR, linesz_is, hcat]
      refine ⟨[.lst (T0.map termD), .lst ((tsF rows st ni).map termD)], S.length + 1, ?_, by simp, trivial⟩
      rw [e1]
      have b1 : tst (callN Fs (k + 4)) (.cmp .eq (.bin .add (.var 2) (.fld "Machine" "inputs" (.var 0))) (.int 0)) [some (.ref m), some (.ref S.length), some (.int (sbN st : Nat)), none, none, none, none, none, none, none, none, none] (S ++ [.lst (T0.map termD)]) = .ok true (S ++ [.lst (T0.map termD)]) := by
        simp only [tst_cmp, ev_bin, ev_var, varR, List.getElem?_cons_zero, List.getElem?_cons_succ, bind_ok, ev_fld, f2, b2_add, ev_int, cT_eq, h0', decide_true]
      rw [run_ite, b1, of_ok, cond_true, run_seq, run_asg, ev_int, of_ok, asgO_var, seq_nx, run_seq, run_asg]
      simp only [List.set_cons_succ, List.set_cons_zero]
      rw [hlc, of_ok, asgO_var, seq_nx, run_skip]
      rfl
    · have e1 : bitsF st ni = sbN st := by unfold bitsF; rw [if_neg h0]
      have e2 : tsF rows st ni = T0 := by unfold tsF; rw [if_neg h0, hT0]
      have h0' : ¬ ((sbN st : Nat) : Int) + ni = 0 := by omega
      refine ⟨[.lst (T0.map termD)], S.length, ?_, by rw [e2]; simp, trivial⟩
      rw [e1]
      have b1 : tst (callN Fs (k + 4)) (.cmp .eq (.bin .add (.var 2) (.fld "Machine" "inputs" (.var 0))) (.int 0)) [some (.ref m), some (.ref S.length), some (.int (sbN st : Nat)), none, none, none, none, none, none, none, none, none] (S ++ [.lst (T0.map termD)]) = .ok false (S ++ [.lst (T0.map termD)]) := by
        simp only [tst_cmp, ev_bin, ev_var, varR, List.getElem?_cons_zero, List.getElem?_cons_succ, bind_ok, ev_fld, f2, b2_add, ev_int, cT_eq, decide_eq_false h0']
      rw [run_ite, b1, of_ok, cond_false, run_skip]
  obtain ⟨G, hG, er⟩ := rest_run (k := k) (Q := S ++ l) (m := m) (t := t) (hm.app l) ht hts hlen M.hni M.hno hb3
  rw [hc, run_seq, a1, seq_nx, run_seq, a2, seq_nx, run_seq, a3, seq_nx, er, finO_ret]
  have hcs : Xq (S ++ l) (layP (tsF rows st ni) ni no (bitsF st ni)) (G ++ [.ins "Layout" (loF (inL ni (bitsF st ni)) (outL (ni + bitsF st ni) (bitsF st ni) (2 * ((tsF rows st ni).length + 1)) no) (S ++ l).length)]) = S ++ (l ++ (.dct (layL rows st ni no) :: (G ++ [.ins "Layout" (loF (layI st ni) (layO rows st ni no) (S.length + l.length))]))) := by
    simp
  rw [hcs]
  have := fin_insd (S := S) (cs := l ++ (.dct (layL rows st ni no) :: (G ++ [.ins "Layout" (loF (layI st ni) (layO rows st ni no) (S.length + l.length))]))) (x := "Layout") (fs := loF (layI st ni) (layO rows st ni no)) (kv := layL rows st ni no) (i := l.length + 3) (j := l.length)
    (by rw [getk, show (3 : Nat) = 2 + 1 from rfl, List.getElem?_cons_succ, List.getElem?_append_right (by omega), hG]; rfl) (by simp) (by omega) (lo_refs _ _) hlim.refs (lo_ren _ _)
  rw [← this, List.length_append, Nat.add_assoc]
end
end Lw

set_option Elab.async false
set_option linter.all false
set_option maxRecDepth 100000
set_option maxHeartbeats 2000000
namespace Lw
open PySem L2 Ng
theorem lcL_grow {n : Nat} {f : D → Store → R (Option D)} {g : D → Option D} {w : D → List Cell} : ∀ (ds acc : List D) (S : Store), S[n]? = some (.lst acc) → acc.length + ds.length ≤ 1000000 → (∀ x ∈ ds, ∀ S', f x S' = .ok (g x) (S' ++ w x)) →
    ∃ l, lcL n (ckS none) f ds S = .ok () ((S ++ l).set n (.lst (acc ++ ds.filterMap g)))
  | [], acc, S, hS, _, _ => ⟨[], by simp only [lcL, ckS_none, cond_true, List.filterMap_nil, List.append_nil, set_same hS]⟩
  | x :: ds, acc, S, hS, hl, hf => by
    have hn := (List.getElem?_eq_some_iff.mp hS).1
    have h2 := hf x List.mem_cons_self S
    simp only [lcL, ckS_none, cond_true, h2]
    simp only [List.length_cons] at hl
    cases hg : g x with
    | none =>
      obtain ⟨l, e⟩ := lcL_grow (n := n) (f := f) (g := g) (w := w) ds acc (S ++ w x) (get_lo hS) (by omega) fun y hy => hf y (List.mem_cons_of_mem _ hy)
      refine ⟨w x ++ l, ?_⟩
      simp only
      rw [List.filterMap_cons, hg, ← List.append_assoc]
      exact e
    | some d =>
      simp only [get_lo hS]
      rw [if_pos (by show acc.length < linesz; rw [linesz_is]; omega)]
      obtain ⟨l, e⟩ := lcL_grow (n := n) (f := f) (g := g) (w := w) ds (acc ++ [d]) ((S ++ w x).set n (.lst (acc ++ [d]))) (List.getElem?_set_self (by simp; omega)) (by simp; omega) fun y hy => hf y (List.mem_cons_of_mem _ hy)
      refine ⟨w x ++ l, ?_⟩
      rw [e, List.filterMap_cons, hg, ← List.append_assoc]
      congr 1
      have hn2 : n < (S ++ w x).length := by rw [List.length_append]; omega
      rw [List.set_append_left _ _ (by rw [List.length_set]; exact hn2), List.set_set, List.set_append_left _ _ hn2]
      simp
section
variable {k : Nat} {S : Store}
theorem sb_list {st : Int} (h : 1 ≤ st ∧ st ≤ 8) : ((rngD 0 3).filterMap fun d => match d with | .int i => if st > ((2 ^ i.toNat : Nat) : Int) then some (D.int i) else none | _ => none).length = sbN st := by
  rcases (show st = 1 ∨ st = 2 ∨ st = 3 ∨ st = 4 ∨ st = 5 ∨ st = 6 ∨ st = 7 ∨ st = 8 by omega) with rfl | rfl | rfl | rfl | rfl | rfl | rfl | rfl <;> decide +kernel
theorem bits_run {st : Int} (h : 1 ≤ st ∧ st ≤ 8) {q0 q2 q3 q4 q5 q6 q7 q8 q9 q10 q11 q12 q13 q14 q15 q16 q17 q18 q19 : Option D} : ∃ l, run (callN Fs (k + 1)) (.asg (.var 4) (.bi .len (.cons (.lc [5] (.var 5) (.rng (.cons (.int 3) .nil)) (.cmp .gt (.var 1) (.bi .len (.cons (.call i_law_words (.cons (.var 5) .nil)) .nil))) (.var 5)) .nil))) [q0, some (.int st), q2, q3, q4, q5, q6, q7, q8, q9, q10, q11, q12, q13, q14, q15, q16, q17, q18, q19] S =
    .nx [q0, some (.int st), q2, q3, some (.int (sbN st : Nat)), q5, q6, q7, q8, q9, q10, q11, q12, q13, q14, q15, q16, q17, q18, q19] (S ++ l) := by
  obtain ⟨l, e⟩ := lcL_grow (n := S.length) (f := lcF [5] (.var 5) (tst (callN Fs (k + 1)) (.cmp .gt (.var 1) (.bi .len (.cons (.call i_law_words (.cons (.var 5) .nil)) .nil)))) (ev (callN Fs (k + 1)) (.var 5)) [q0, some (.int st), q2, q3, q4, q5, q6, q7, q8, q9, q10, q11, q12, q13, q14, q15, q16, q17, q18, q19])
    (g := fun d => match d with | .int i => if st > ((2 ^ i.toNat : Nat) : Int) then some (D.int i) else none | _ => none) (w := fun d => match d with | .int i => [.lst ((WS i.toNat).map wD)] | _ => []) (rngD 0 3) [] (S ++ [.lst []]) (by simp) (by simp) (fun x hx S' => by
      obtain ⟨j, hj, rfl⟩ : ∃ j : Nat, j < 3 ∧ x = .int j := by
        obtain ⟨i, hi⟩ := List.mem_iff_getElem?.mp hx
        obtain ⟨h1, h2⟩ := rng_at0 hi
        exact ⟨i, h1, h2⟩
      have hw := law_words_ok (k := k) (S := S') (b := j) (by omega)
      have hwl : ((WS j).length : Int) = ((2 ^ j : Nat) : Int) := by rw [WS_len]
      have hln : biD .len [.ref S'.length] (S' ++ [.lst ((WS j).map wD)]) = .ok (.int ((2 ^ j : Nat) : Int)) (S' ++ [.lst ((WS j).map wD)]) := by
        rw [len_lst (ds := (WS j).map wD) (by simp), List.length_map, hwl]
      have ht : tst (callN Fs (k + 1)) (.cmp .gt (.var 1) (.bi .len (.cons (.call i_law_words (.cons (.var 5) .nil)) .nil))) [q0, some (.int st), q2, q3, q4, some (.int (j : Int)), q6, q7, q8, q9, q10, q11, q12, q13, q14, q15, q16, q17, q18, q19] S' = .ok (decide (((2 ^ j : Nat) : Int) < st)) (S' ++ [.lst ((WS j).map wD)]) := by
        simp only [tst_cmp, ev_var, varR, List.getElem?_cons_zero, List.getElem?_cons_succ, bind_ok, ev_bi, evs_cons, ev_call, evs_nil, hw, hln, cT_gt]
      simp only [lcF, asgT, wipeE, List.set_cons_succ, List.set_cons_zero]
      rw [ht, bind_ok]
      by_cases hc : ((2 ^ j : Nat) : Int) < st
      · simp only [decide_eq_true hc, cond_true, ev_var, varR, List.getElem?_cons_zero, List.getElem?_cons_succ, bind_ok, Int.toNat_natCast]
        rw [if_pos hc]
      · simp only [decide_eq_false hc, cond_false, Int.toNat_natCast]
        rw [if_neg hc])
  have h3 := sb_list h
  generalize ((rngD 0 3).filterMap fun d => match d with | .int i => if st > ((2 ^ i.toNat : Nat) : Int) then some (D.int i) else none | _ => none) = xs at *
  rw [List.nil_append, List.append_assoc, set0] at e
  obtain ⟨l2, hl2⟩ : ∃ l2, l2 = ([Cell.lst []] ++ l).set 0 (.lst xs) := ⟨_, rfl⟩
  rw [← hl2] at e
  have hg : (S ++ l2)[S.length]? = some (.lst xs) := by rw [get0, hl2]; rfl
  refine ⟨l2, ?_⟩
  have hlc : ev (callN Fs (k + 1)) (.lc [5] (.var 5) (.rng (.cons (.int 3) .nil)) (.cmp .gt (.var 1) (.bi .len (.cons (.call i_law_words (.cons (.var 5) .nil)) .nil))) (.var 5)) [q0, some (.int st), q2, q3, q4, q5, q6, q7, q8, q9, q10, q11, q12, q13, q14, q15, q16, q17, q18, q19] S = .ok (.ref S.length) (S ++ l2) := by
    have hi : itr (callN Fs (k + 1)) (.rng (.cons (.int 3) .nil)) [q0, some (.int st), q2, q3, q4, q5, q6, q7, q8, q9, q10, q11, q12, q13, q14, q15, q16, q17, q18, q19] S = .ok ⟨rngD 0 3, none⟩ S := by simp
    rw [ev_lc, hi, bind_ok]
    unfold lcR
    rw [e, bind_ok]
  rw [run_asg, ev_bi, evs_cons, hlc, bind_ok, evs_nil, bind_ok, bind_ok, len_lst hg, of_ok, asgO_var, h3]
  rfl
theorem lterms_ok {st : Int} {ni no g sb : Nat} {rows : List (Int × List Int)} (M : MOk st ni no rows) (hsb : sb ≤ 3) (hg : S[g]? = some (.lst (rows.map rowD))) : callN Fs (k + 2) i_law_terms [.ref g, .int ni, .int sb] S = .ok (.ref S.length) (S ++ [.lst ((TM rows ni sb rows.length).map termD)]) := by
  rw [cl_law_terms]
  have hni := M.hni
  have hr := rows_le M
  have hw := law_words_ok (k := k) (S := S) (b := ni) hni
  have a1 : run (callN Fs (k + 1)) (.asg (.var 3) (.call i_law_words (.cons (.var 1) .nil))) [some (.ref g), some (.int ni), some (.int sb), none, none, none, none] S = .nx [some (.ref g), some (.int ni), some (.int sb), some (.ref S.length), none, none, none] (S ++ [.lst ((WS ni).map wD)]) := by
    simp [varR, hw]
  have a2 : run (callN Fs (k + 1)) (.asg (.var 4) (.lst .nil)) [some (.ref g), some (.int ni), some (.int sb), some (.ref S.length), none, none, none] (S ++ [.lst ((WS ni).map wD)]) = .nx [some (.ref g), some (.int ni), some (.int sb), some (.ref S.length), some (.ref (S.length + 1)), none, none] (S ++ [.lst ((WS ni).map wD), .lst []]) := by
    simp [varR, linesz_is]
  obtain ⟨ρ1, S1, e1, q5, q6, rfl, rfl, -⟩ := for_inv (ck := ckS none) (f := fun x ρ S => (asgO (.var 5) x ρ S).seq (run (callN Fs (k + 1)) b_law_terms_1)) (ds := rngD 0 rows.length) (ρ := [some (.ref g), some (.int ni), some (.int sb), some (.ref S.length), some (.ref (S.length + 1)), none, none]) (S := S ++ [.lst ((WS ni).map wD), .lst []])
    (fun j ρ' S' => ∃ q5 q6, ρ' = [some (.ref g), some (.int ni), some (.int sb), some (.ref S.length), some (.ref (S.length + 1)), q5, q6] ∧ S' = S ++ [.lst ((WS ni).map wD), .lst ((TM rows ni sb j).map termD)] ∧ j ≤ rows.length)
    ⟨none, none, rfl, rfl, Nat.zero_le _⟩ (fun _ _ _ _ => rfl) (fun j x ρ' S' hj ⟨q5, q6, h1, h2, h3⟩ => by
      subst h1 h2
      obtain ⟨hj2, rfl⟩ := rng_at0 hj
      obtain ⟨row, hrow⟩ : ∃ row, rows[j]? = some row := ⟨_, List.getElem?_eq_getElem hj2⟩
      have hro := M.hok row (List.mem_of_getElem? hrow)
      have hra : ∀ S, atR (rows.map rowD) (j : Int) S = .ok (rowD row) S := fun S => atR_nat (by rw [List.getElem?_map, hrow]; rfl)
      have hp0 : 0 < 2 ^ ni := Nat.pow_pos (by decide)
      obtain ⟨w, hwj⟩ : ∃ w, (WS ni)[j % 2 ^ ni]? = some w := ⟨_, List.getElem?_eq_getElem (by rw [WS_len]; exact Nat.mod_lt _ hp0)⟩
      have hwa : ∀ S, atR ((WS ni).map wD) ((j : Int) % ((2 ^ ni : Nat) : Int)) S = .ok (wD w) S := fun S => by
        have e : (j : Int) % ((2 ^ ni : Nat) : Int) = ((j % 2 ^ ni : Nat) : Int) := by rw [Int.natCast_emod]
        rw [e]
        exact atR_nat (by rw [List.getElem?_map, hwj]; rfl)
      have hdv : (j : Int) / ((2 ^ ni : Nat) : Int) = ((j / 2 ^ ni : Nat) : Int) := by rw [Int.natCast_ediv]
      have hww := WS_wlen _ _ (List.mem_of_getElem? hwj)
      have hx1 := fun S => wordx_ok (k := k) (S := S) (v := row.1) hro.1 (b := sb) (by omega)
      have hx2 := fun S => wordx_ok (k := k) (S := S) (v := ((j / 2 ^ ni : Nat) : Int)) (Int.natCast_nonneg _) (b := sb) (by omega)
      have hlw : ∀ S', S'[S.length]? = some (.lst ((WS ni).map wD)) → biD .len [.ref S.length] S' = .ok (.int ((2 ^ ni : Nat) : Int)) S' := fun S' h => by
        rw [len_lst h, List.length_map, WS_len]
      have hcat1 : ∀ S, bin2 .add (wD (wordF row.1 sb)) (wD row.2) S = .ok (wD (rowW sb row)) S := fun S => by
        have := M.hno
        rw [b2_tcat (by rw [List.length_map, List.length_map, wordF_len, hro.2.2.1, linesz_is]; omega), ← List.map_append]; rfl
      have hcat2 : ∀ S, bin2 .add (wD w) (wD (wordF ((j / 2 ^ ni : Nat) : Int) sb)) S = .ok (wD (w ++ wordF ((j / 2 ^ ni : Nat) : Int) sb)) S := fun S => by
        rw [b2_tcat (by rw [List.length_map, List.length_map, wordF_len, hww, linesz_is]; omega), ← List.map_append]
      have h1 := fun S => has1 (S := S) (rowW sb row)
      have htm : tmK rows ni sb j = if 1 ∈ rowW sb row then some (w ++ wordF ((j / 2 ^ ni : Nat) : Int) sb, rowW sb row) else none := by
        unfold tmK
        rw [hrow, hwj]
      have htl := TM_len rows ni sb j
      have hgS : ∀ l, (S ++ l)[g]? = some (.lst (rows.map rowD)) := fun l => get_lo hg
      rw [TM_succ, htm]
      have hsB : (0 : Int) < ((2 ^ ni : Nat) : Int) ∧ ((2 ^ ni : Nat) : Int) < 1073741824 := by
        have : 2 ^ ni ≤ 2 ^ 3 := Nat.pow_le_pow_right (by decide) hni
        omega
      obtain ⟨B, hB⟩ : ∃ B, B = S ++ [.lst ((WS ni).map wD), .lst ((TM rows ni sb j).map termD)] := ⟨_, rfl⟩
      have hB0 : B[S.length]? = some (.lst ((WS ni).map wD)) := by rw [hB]; simp
      have hB1 : B[S.length + 1]? = some (.lst ((TM rows ni sb j).map termD)) := by rw [hB]; simp
      have hBg : B[g]? = some (.lst (rows.map rowD)) := by rw [hB]; exact hgS _
      have hlB := hlw B hB0
      have b1 : run (callN Fs (k + 1)) (.asg (.var 6) (.bin .add (.call i_law_word (.cons (.ix (.ix (.var 0) (.var 5)) (.int 0)) (.cons (.var 2) .nil))) (.ix (.ix (.var 0) (.var 5)) (.int 1)))) [some (.ref g), some (.int ni), some (.int sb), some (.ref S.length), some (.ref (S.length + 1)), some (.int j), q6] B = .nx [some (.ref g), some (.int ni), some (.int sb), some (.ref S.length), some (.ref (S.length + 1)), some (.int j), some (wD (rowW sb row))] B := by
        simp only [run_asg, ev_bin, ev_call, evs_cons, ev_ix, ev_var, varR, List.getElem?_cons_zero, List.getElem?_cons_succ, bind_ok, ix_lst hBg, hra, ev_int, ix_tup', at_0, at_1, evs_nil, hx1, hcat1, of_ok, asgO_var]
        rfl
      refine ⟨_, _, ?_, some (.int j), some (wD (rowW sb row)), rfl, rfl, by omega⟩
      simp only [asgO_var, seq_nx, List.set_cons_succ, List.set_cons_zero]
      rw [← hB, b_law_terms_1, run_seq, b1, seq_nx, run_seq, run_ite, tst_cmp, ev_int, bind_ok, ev_var]
      simp only [varR, List.getElem?_cons_zero, List.getElem?_cons_succ, bind_ok, h1, of_ok]
      by_cases hc : 1 ∈ rowW sb row
      · rw [if_pos hc]
        simp only [decide_eq_true hc, cond_true, run_seq, run_ex, ev_me, ev_var, varR, List.getElem?_cons_zero, List.getElem?_cons_succ, bind_ok, meOk_lst hB1, evs_cons, ev_tup, ev_bin, ev_ix, ev_bi, evs_nil, hlB, b2_mod _ _ hsB.1, ix_lst hB0, hwa, ev_call, b2_fdiv _ _ hsB, hdv, hx2, hcat2]
        rw [tupR_ok _ (by simp [linesz_is]), bind_ok, bind_ok, meD_append hB1 (by rw [List.length_map, linesz_is]; omega), of_ok, seq_nx, run_skip, seq_nx, run_skip]
        rw [hB, setk]
        simp
      · rw [if_neg hc]
        simp only [decide_eq_false hc, cond_false, run_skip, seq_nx]
        rw [hB]
        simp)
  rw [rng_len] at e1
  have hgS : ∀ l, (S ++ l)[g]? = some (.lst (rows.map rowD)) := fun l => get_lo hg
  have hi : itr (callN Fs (k + 1)) (.rng (.cons (.bi .len (.cons (.var 0) .nil)) .nil)) [some (.ref g), some (.int ni), some (.int sb), some (.ref S.length), some (.ref (S.length + 1)), none, none] (S ++ [.lst ((WS ni).map wD), .lst []]) = .ok ⟨rngD 0 rows.length, none⟩ (S ++ [.lst ((WS ni).map wD), .lst []]) := by
    simp only [itr_rng, evs_cons, ev_bi, ev_var, varR, List.getElem?_cons_zero, bind_ok, evs_nil, len_lst (hgS _), List.length_map]
    rw [rngR1 _ (by omega)]
    rfl
  rw [c_law_terms, run_seq, a1, seq_nx, run_seq, a2, seq_nx, run_seq, run_for, hi, of_ok]
  simp only
  rw [e1, seq_nx]
  have := fin_at (S := S) (cs := [.lst ((WS ni).map wD), .lst ((TM rows ni sb rows.length).map termD)]) (i := 1) rfl (refs_terms _)
  simp [varR, this]
end
end Lw

set_option Elab.async false
set_option linter.all false
set_option maxRecDepth 100000
set_option maxHeartbeats 2000000
namespace Lw
open PySem L2 Ng
section
variable {k : Nat} {T : Store} {p n m : Nat} {kv : KV} {bg : List Bool} {b : Nat} {LD : List D}
theorem llits_run {bs ss : List Int} {r : Nat} (hw : WOk T p n) (hl : Lim b kv) (hb : b + 4 * bs.length < 100000) (hbs : ∀ x ∈ bs, x = -1 ∨ x = 0 ∨ x = 1) (hm : T[m]? = some (.lst LD)) (hmp : m ≠ p) (hmn : m ≠ n) (hr : LD[r]? = some (termD (bs, ss)))
    {q0 q1 q2 q3 q4 q5 q6 q7 q8 q9 q14 q15 q16 q17 q18 q19 : Option D} :
    ∃ r5, forL (ckS none) (fun x ρ S => (asgO (.var 5) x ρ S).seq (run (callN Fs (k + 1)) b_law_layout_6)) (rngD 0 bs.length) [q0, q1, q2, q3, q4, q5, q6, q7, q8, q9, some (.ref p), some (.ref n), some (.ref m), some (.int r), q14, q15, q16, q17, q18, q19] (W T p n kv bg) =
      .nx [q0, q1, q2, q3, q4, r5, q6, q7, q8, q9, some (.ref p), some (.ref n), some (.ref m), some (.int r), q14, q15, q16, q17, q18, q19] (W T p n (litsN r bs kv bs.length) bg) := by
  obtain ⟨ρ1, S1, e1, r5, rfl, rfl, -⟩ := for_inv (ck := ckS none) (f := fun x ρ S => (asgO (.var 5) x ρ S).seq (run (callN Fs (k + 1)) b_law_layout_6)) (ds := rngD 0 bs.length) (ρ := [q0, q1, q2, q3, q4, q5, q6, q7, q8, q9, some (.ref p), some (.ref n), some (.ref m), some (.int r), q14, q15, q16, q17, q18, q19]) (S := W T p n kv bg)
    (fun j ρ' S' => ∃ r5, ρ' = [q0, q1, q2, q3, q4, r5, q6, q7, q8, q9, some (.ref p), some (.ref n), some (.ref m), some (.int r), q14, q15, q16, q17, q18, q19] ∧ S' = W T p n (litsN r bs kv j) bg ∧ j ≤ bs.length)
    ⟨q5, rfl, rfl, Nat.zero_le _⟩ (fun _ _ _ _ => rfl) (fun j x ρ' S' hj ⟨r5, h1, h2, h3⟩ => by
      subst h1 h2
      obtain ⟨hj2, rfl⟩ := rng_at0 hj
      have hlj := Lim.lits (r := (r : Int)) (bs := bs) hl j
      have hf := lfield_ok (k := k) (S := W T p n (litsN r bs kv j) bg) (x := 2 * (j : Int)) (y := 2 * (r : Int)) (f := lF j (bs.getD j 0)) (W_p hw) hlj (by omega) (lF_ok _ _)
      rw [W_sp hw] at hf
      have hx := hbs (bs.getD j 0) (by rw [List.getD_eq_getElem?_getD, List.getElem?_eq_getElem hj2]; exact List.getElem_mem hj2)
      have hz := fun S => llit_ok (k := k) (S := S) j hx
      have ha := fun S => int_at hj2 S
      have hlr : ∀ S, atR LD (r : Int) S = .ok (.tup [.tup (bs.map D.int), .tup (ss.map D.int)]) S := fun S => atR_nat hr
      have hW : (W T p n (litsN r bs kv j) bg)[m]? = some (.lst LD) := by rw [W_o hmp hmn, hm]
      refine ⟨_, _, ?_, some (.int j), rfl, rfl, by omega⟩
      rw [show litsN r bs kv (j + 1) = fieldP (litsN r bs kv j) (2 * (j : Int)) (2 * (r : Int)) (lF j (bs.getD j 0)) from rfl]
      generalize (lF j (bs.getD j 0)).tp (.tup []) = F at *
      generalize fieldP (litsN r bs kv j) (2 * (j : Int)) (2 * (r : Int)) (lF j (bs.getD j 0)) = KN at *
      generalize bs.getD j 0 = c at *
      simp [b_law_layout_6, varR, hW, hlr, ha, hz, hf])
  rw [rng_len] at e1
  exact ⟨r5, e1⟩
theorem lsums_run {bs ss : List Int} {r L : Nat} (hw : WOk T p n) (hl : Lim b kv) (hb : b + 4 * ss.length < 100000) (hbg : bg.length = ss.length) (hm : T[m]? = some (.lst LD)) (hmp : m ≠ p) (hmn : m ≠ n) (hr : LD[r]? = some (termD (bs, ss)))
    {q0 q1 q2 q3 q4 q5 q6 q7 q9 q14 q15 q16 q17 q18 q19 : Option D} :
    ∃ r5 r14, forL (ckS none) (fun x ρ S => (asgO (.var 5) x ρ S).seq (run (callN Fs (k + 1)) b_law_layout_5)) (rngD 0 ss.length) [q0, q1, q2, q3, q4, q5, q6, q7, some (.int L), q9, some (.ref p), some (.ref n), some (.ref m), some (.int r), q14, q15, q16, q17, q18, q19] (W T p n kv bg) =
      .nx [q0, q1, q2, q3, q4, r5, q6, q7, some (.int L), q9, some (.ref p), some (.ref n), some (.ref m), some (.int r), r14, q15, q16, q17, q18, q19] (W T p n (sumsN (2 * (L : Int)) r ss (kv, bg) ss.length).1 (sumsN (2 * (L : Int)) r ss (kv, bg) ss.length).2) := by
  obtain ⟨ρ1, S1, e1, r5, r14, rfl, rfl, -⟩ := for_inv (ck := ckS none) (f := fun x ρ S => (asgO (.var 5) x ρ S).seq (run (callN Fs (k + 1)) b_law_layout_5)) (ds := rngD 0 ss.length) (ρ := [q0, q1, q2, q3, q4, q5, q6, q7, some (.int L), q9, some (.ref p), some (.ref n), some (.ref m), some (.int r), q14, q15, q16, q17, q18, q19]) (S := W T p n kv bg)
    (fun j ρ' S' => ∃ r5 r14, ρ' = [q0, q1, q2, q3, q4, r5, q6, q7, some (.int L), q9, some (.ref p), some (.ref n), some (.ref m), some (.int r), r14, q15, q16, q17, q18, q19] ∧ S' = W T p n (sumsN (2 * (L : Int)) r ss (kv, bg) j).1 (sumsN (2 * (L : Int)) r ss (kv, bg) j).2 ∧ j ≤ ss.length)
    ⟨q5, q14, rfl, rfl, Nat.zero_le _⟩ (fun _ _ _ _ => rfl) (fun j x ρ' S' hj ⟨r5, r14, h1, h2, h3⟩ => by
      subst h1 h2
      obtain ⟨hj2, rfl⟩ := rng_at0 hj
      obtain ⟨hlj, hgl⟩ := Lim.sums (x0 := 2 * (L : Int)) (r := (r : Int)) (ss := ss) (st := (kv, bg)) hl j
      have hs2 : (sumsN (2 * (L : Int)) r ss (kv, bg) (j + 1)) = (fieldP (sumsN (2 * (L : Int)) r ss (kv, bg) j).1 (2 * (L : Int) + 2 * (j : Int)) (2 * (r : Int)) (sumF (decide (ss.getD j 0 = 1)) (decide (1 ∈ ss.drop (j + 1))) ((sumsN (2 * (L : Int)) r ss (kv, bg) j).2.getD j false)),
        (sumsN (2 * (L : Int)) r ss (kv, bg) j).2.set j ((sumsN (2 * (L : Int)) r ss (kv, bg) j).2.getD j false || decide (ss.getD j 0 = 1))) := rfl
      rw [hs2]
      generalize sumsN (2 * (L : Int)) r ss (kv, bg) j = st at *
      obtain ⟨kvj, bgj⟩ := st
      simp only at hlj hgl ⊢
      have hjb : j < bgj.length := by omega
      have hf := lfield_ok (k := k) (S := W T p n kvj bgj) (x := 2 * (L : Int) + 2 * (j : Int)) (y := 2 * (r : Int)) (f := sumF (decide (ss.getD j 0 = 1)) (decide (1 ∈ ss.drop (j + 1))) (bgj.getD j false)) (W_p hw) hlj (by omega) (sumF_ok _ _ _)
      rw [W_sp hw] at hf
      have hsum := fun S => lsum_ok (k := k) (S := S) (decide (ss.getD j 0 = 1)) (decide (1 ∈ ss.drop (j + 1))) (bgj.getD j false)
      have ha := fun S => int_at hj2 S
      have hgo := fun S => goes_cutR ss j S
      have hba := fun S => bg_at hjb S
      have hlr : ∀ S, atR LD (r : Int) S = .ok (.tup [.tup (bs.map D.int), .tup (ss.map D.int)]) S := fun S => atR_nat hr
      have hW : ∀ kv, (W T p n kv bgj)[m]? = some (.lst LD) := fun kv => by rw [W_o hmp hmn, hm]
      have hn1 : ∀ kv, (W T p n kv bgj)[n]? = some (.lst (bgj.map D.bl)) := fun kv => W_n hw
      have hst : ∀ kv ρ, istO (.bl (bgj.getD j false || decide (ss.getD j 0 = 1))) (.ref n) (.int j) ρ (W T p n kv bgj) = .nx ρ (W T p n kv (bgj.set j (bgj.getD j false || decide (ss.getD j 0 = 1)))) := fun kv ρ => by
        rw [bg_ist (W_n hw) hjb, W_sn]
      refine ⟨_, _, ?_, some (.int j), some (.bl (decide (ss.getD j 0 = 1))), rfl, rfl, by omega⟩
      generalize (sumF (decide (ss.getD j 0 = 1)) (decide (1 ∈ ss.drop (j + 1))) (bgj.getD j false)).tp (.tup []) = F at *
      generalize fieldP kvj (2 * (L : Int) + 2 * (j : Int)) (2 * (r : Int)) (sumF (decide (ss.getD j 0 = 1)) (decide (1 ∈ ss.drop (j + 1))) (bgj.getD j false)) = KN at *
      generalize decide (1 ∈ ss.drop (j + 1)) = go at *
      generalize bgj.getD j false = be at *
      generalize ss.getD j 0 = c at *
      simp only [asgO_var, seq_nx, List.set_cons_succ, List.set_cons_zero]
      cases be <;> simp [b_law_layout_5, varR, hW, hlr, ha, hgo, hsum, hba, hn1, hf, hst] <;> (simp only [Bool.true_or, Bool.false_or] at hst; first | rw [hst]; rfl | simp [hst]; rfl | rfl))
  rw [rng_len] at e1
  exact ⟨r5, r14, e1⟩
theorem lrow_at {ts : List (List Int × List Int)} {L S j : Nat} (h : TsOk ts L S) (hj : j < ts.length + 1) : ((linesL ts L S).map termD)[j]? = some (termD ((linesL ts L S).getD j ([], []))) ∧ (∀ x ∈ ((linesL ts L S).getD j ([], [])).1, x = -1 ∨ x = 0 ∨ x = 1) ∧ ((linesL ts L S).getD j ([], [])).1.length = L ∧ ((linesL ts L S).getD j ([], [])).2.length = S := by
  obtain ⟨row0, g1, g2, g3, g4⟩ := row_at h hj
  have hl : j < (linesL ts L S).length := by simp; omega
  refine ⟨?_, fun x hx => ?_, g3, g4⟩
  · rw [List.getElem?_map, List.getD_eq_getElem?_getD, List.getElem?_eq_getElem hl]; rfl
  · rcases g2 with ⟨_, h2⟩ | ⟨_, h2⟩
    · obtain ⟨i, hi, rfl⟩ := List.mem_iff_getElem.mp hx
      have := h2 i hi
      rw [List.getD_eq_getElem?_getD, List.getElem?_eq_getElem hi] at this
      exact .inl this
    · rcases h2 x hx with h | h
      · exact .inr (.inl h)
      · exact .inr (.inr h)
theorem lrows_run {ts : List (List Int × List Int)} {L S : Nat} (hw : WOk T p n) (hts : TsOk ts L S) (hLS : L + S ≤ 20) (hlen : ts.length ≤ 100) (hbg : bg.length = S) (hl : Lim b kv) (hb : b ≤ 10) (hm : T[m]? = some (.lst ((linesL ts L S).map termD))) (hmp : m ≠ p) (hmn : m ≠ n)
    {q0 q1 q2 q3 q4 q5 q6 q7 q13 q14 q15 q16 q17 q18 q19 : Option D} :
    ∃ r5 r13 r14, forL (ckS none) (fun x ρ S => (asgO (.var 13) x ρ S).seq (run (callN Fs (k + 1)) b_law_layout_7)) (rngD 0 (ts.length + 1)) [q0, q1, q2, q3, q4, q5, q6, q7, some (.int L), some (.int S), some (.ref p), some (.ref n), some (.ref m), q13, q14, q15, q16, q17, q18, q19] (W T p n kv bg) =
      .nx [q0, q1, q2, q3, q4, r5, q6, q7, some (.int L), some (.int S), some (.ref p), some (.ref n), some (.ref m), r13, r14, q15, q16, q17, q18, q19] (W T p n (rowsN L (linesL ts L S) (kv, bg) (ts.length + 1)).1 (rowsN L (linesL ts L S) (kv, bg) (ts.length + 1)).2) := by
  have hmax : ∀ t ∈ linesL ts L S, t.1.length + t.2.length ≤ 20 := fun t ht => by
    rcases List.mem_append.mp ht with ht | ht
    · obtain ⟨g1, g2, g3⟩ := hts t ht; omega
    · simp at ht; subst ht; simp; exact hLS
  obtain ⟨ρ1, S1, e1, r5, r13, r14, rfl, rfl, -⟩ := for_inv (ck := ckS none) (f := fun x ρ S => (asgO (.var 13) x ρ S).seq (run (callN Fs (k + 1)) b_law_layout_7)) (ds := rngD 0 (ts.length + 1)) (ρ := [q0, q1, q2, q3, q4, q5, q6, q7, some (.int L), some (.int S), some (.ref p), some (.ref n), some (.ref m), q13, q14, q15, q16, q17, q18, q19]) (S := W T p n kv bg)
    (fun j ρ' S' => ∃ r5 r13 r14, ρ' = [q0, q1, q2, q3, q4, r5, q6, q7, some (.int L), some (.int S), some (.ref p), some (.ref n), some (.ref m), r13, r14, q15, q16, q17, q18, q19] ∧ S' = W T p n (rowsN L (linesL ts L S) (kv, bg) j).1 (rowsN L (linesL ts L S) (kv, bg) j).2 ∧ j ≤ ts.length + 1)
    ⟨q5, q13, q14, rfl, rfl, Nat.zero_le _⟩ (fun _ _ _ _ => rfl) (fun j x ρ' S' hj ⟨r5, r13, r14, h1, h2, h3⟩ => by
      subst h1 h2
      obtain ⟨hj2, rfl⟩ := rng_at0 hj
      obtain ⟨g1, g2, g3, g4⟩ := lrow_at (L := L) hts hj2
      obtain ⟨hlj, hgl⟩ := Lim.rows (L := L) (lines := linesL ts L S) (st := (kv, bg)) hl hmax j
      have hs2 : rowsN L (linesL ts L S) (kv, bg) (j + 1) = sumsN (2 * (L : Int)) j ((linesL ts L S).getD j ([], [])).2 (litsN j ((linesL ts L S).getD j ([], [])).1 (rowsN L (linesL ts L S) (kv, bg) j).1 ((linesL ts L S).getD j ([], [])).1.length, (rowsN L (linesL ts L S) (kv, bg) j).2) ((linesL ts L S).getD j ([], [])).2.length := rfl
      rw [hs2]
      generalize rowsN L (linesL ts L S) (kv, bg) j = st at *
      obtain ⟨kvj, bgj⟩ := st
      simp only at hlj hgl ⊢
      generalize hLD : (linesL ts L S).map termD = LD at *
      generalize (linesL ts L S).getD j ([], []) = t at *
      obtain ⟨bs, ss⟩ := t
      simp only at g2 g3 g4 ⊢
      have hbound : b + 4 * 20 * j ≤ 9000 := by omega
      obtain ⟨s5, el⟩ := llits_run (k := k) (T := T) (r := j) (bs := bs) (ss := ss) (bg := bgj) hw hlj (by omega) g2 hm hmp hmn g1 (q0 := q0) (q1 := q1) (q2 := q2) (q3 := q3) (q4 := q4) (q5 := r5) (q6 := q6) (q7 := q7) (q8 := some (.int L)) (q9 := some (.int S)) (q14 := r14) (q15 := q15) (q16 := q16) (q17 := q17) (q18 := q18) (q19 := q19)
      have hl2 := Lim.lits (r := (j : Int)) (bs := bs) hlj bs.length
      obtain ⟨u5, u14, es⟩ := lsums_run (k := k) (T := T) (r := j) (bs := bs) (ss := ss) (L := L) (bg := bgj) hw hl2 (by omega) (by omega) hm hmp hmn g1 (q0 := q0) (q1 := q1) (q2 := q2) (q3 := q3) (q4 := q4) (q5 := s5) (q6 := q6) (q7 := q7) (q9 := some (.int S)) (q14 := r14) (q15 := q15) (q16 := q16) (q17 := q17) (q18 := q18) (q19 := q19)
      rw [g3] at el es
      rw [g4] at es
      have rL : ∀ S', rngR [.int (L : Int)] S' = .ok ⟨rngD 0 L, none⟩ S' := fun S' => by rw [rngR1 _ (by omega)]; rfl
      have rS : ∀ S', rngR [.int (S : Int)] S' = .ok ⟨rngD 0 S, none⟩ S' := fun S' => by rw [rngR1 _ (by omega)]; rfl
      refine ⟨_, _, ?_, u5, some (.int j), u14, rfl, rfl, by omega⟩
      simp only [asgO_var, seq_nx] at el es
      rw [g3, g4]
      simp only [asgO_var, seq_nx, List.set_cons_succ, List.set_cons_zero]
      simp only [b_law_layout_7, run_seq, run_for, itr_rng, evs_cons, ev_var, varR, List.getElem?_cons_zero, List.getElem?_cons_succ, bind_ok, evs_nil, rL, rS, of_ok, asgO_var, seq_nx, run_skip]
      rw [el, seq_nx]
      simp only [run_seq, run_for, itr_rng, evs_cons, ev_var, varR, List.getElem?_cons_zero, List.getElem?_cons_succ, bind_ok, evs_nil, rL, rS, of_ok, asgO_var, seq_nx, run_skip]
      rw [es, seq_nx, run_skip])
  rw [rng_len] at e1
  exact ⟨r5, r13, r14, e1⟩
end
end Lw

set_option Elab.async false
set_option linter.all false
set_option maxRecDepth 100000
set_option maxHeartbeats 2000000
namespace Lw
open PySem L2 Ng
def Y (T : Store) (p : Nat) (kv : KV) : Store := T.set p (.dct kv)
section
variable {k : Nat} {T : Store} {p : Nat} {kv kv' : KV} {b : Nat}
theorem Y_g (hp : p < T.length) : (Y T p kv)[p]? = some (.dct kv) := List.getElem?_set_self hp
theorem Y_s : (Y T p kv).set p (.dct kv') = Y T p kv' := by unfold Y; rw [List.set_set]
theorem lstates_run {ni bits L bot : Nat} (hp : p < T.length) (hni : ni ≤ 3) (hbits : bits ≤ 3) (hL : L ≤ 20) (hbot : bot ≤ 300) (hl : Lim b kv) (hb : b ≤ 10000) {q0 q1 q3 q4 q5 q6 q7 q9 q11 q12 q13 q14 q16 q17 q18 q19 : Option D} :
    ∃ r16 r17, forL (ckS none) (fun x ρ S => (asgO (.var 16) x ρ S).seq (run (callN Fs (k + 1)) b_law_layout_4)) (rngD 0 bits) [q0, q1, some (.int ni), q3, q4, q5, q6, q7, some (.int L), q9, some (.ref p), q11, q12, q13, q14, some (.int bot), q16, q17, q18, q19] (Y T p kv) =
      .nx [q0, q1, some (.int ni), q3, q4, q5, q6, q7, some (.int L), q9, some (.ref p), q11, q12, q13, q14, some (.int bot), r16, r17, q18, q19] (Y T p (statesN ni L bot kv bits)) := by
  obtain ⟨ρ1, S1, e1, r16, r17, rfl, rfl, -⟩ := for_inv (ck := ckS none) (f := fun x ρ S => (asgO (.var 16) x ρ S).seq (run (callN Fs (k + 1)) b_law_layout_4)) (ds := rngD 0 bits) (ρ := [q0, q1, some (.int ni), q3, q4, q5, q6, q7, some (.int L), q9, some (.ref p), q11, q12, q13, q14, some (.int bot), q16, q17, q18, q19]) (S := Y T p kv)
    (fun j ρ' S' => ∃ r16 r17, ρ' = [q0, q1, some (.int ni), q3, q4, q5, q6, q7, some (.int L), q9, some (.ref p), q11, q12, q13, q14, some (.int bot), r16, r17, q18, q19] ∧ S' = Y T p (statesN ni L bot kv j) ∧ j ≤ bits)
    ⟨q16, q17, rfl, rfl, Nat.zero_le _⟩ (fun _ _ _ _ => rfl) (fun j x ρ' S' hj ⟨r16, r17, h1, h2, h3⟩ => by
      subst h1 h2
      obtain ⟨hj2, rfl⟩ := rng_at0 hj
      have hlj := Lim.states hl hni hL hbot j (by omega)
      have hs := lstate_ok (k := k) (S := Y T p (statesN ni L bot kv j)) (p := p) (s := j) (ni := ni) (col := 2 * L + 2 * j + 1) (bot := bot) (Y_g hp) hlj (by omega) hni (by omega) hbot (by omega) (L := L) rfl
        (q0 := q0) (q1 := q1) (q3 := q3) (q4 := q4) (q5 := q5) (q6 := q6) (q7 := q7) (q9 := q9) (q11 := q11) (q12 := q12) (q13 := q13) (q14 := q14) (q17 := r17) (q18 := q18) (q19 := q19)
      rw [Y_s] at hs
      refine ⟨_, _, ?_, some (.int j), some (.int ((2 * L + 2 * j + 1 : Nat) : Int)), rfl, rfl, by omega⟩
      simp only [asgO_var, seq_nx, List.set_cons_succ, List.set_cons_zero]
      exact hs)
  rw [rng_len] at e1
  exact ⟨r16, r17, e1⟩
theorem lcross_run {bits x : Nat} (hp : p < T.length) (hl : Lim b kv) (hb : b + bits ≤ 100000) {q0 q1 q2 q3 q4 q6 q7 q8 q9 q11 q12 q13 q14 q15 q16 q17 q18 q19 : Option D} :
    ∃ r16, forL (ckS none) (fun x ρ S => (asgO (.var 16) x ρ S).seq (run (callN Fs k) b_law_layout_2)) (rngD 0 bits) [q0, q1, q2, q3, q4, some (.int x), q6, q7, q8, q9, some (.ref p), q11, q12, q13, q14, q15, q16, q17, q18, q19] (Y T p kv) =
      .nx [q0, q1, q2, q3, q4, some (.int x), q6, q7, q8, q9, some (.ref p), q11, q12, q13, q14, q15, r16, q17, q18, q19] (Y T p (crossN (2 * (x : Int)) kv bits)) := by
  obtain ⟨ρ1, S1, e1, r16, rfl, rfl, -⟩ := for_inv (ck := ckS none) (f := fun x ρ S => (asgO (.var 16) x ρ S).seq (run (callN Fs k) b_law_layout_2)) (ds := rngD 0 bits) (ρ := [q0, q1, q2, q3, q4, some (.int x), q6, q7, q8, q9, some (.ref p), q11, q12, q13, q14, q15, q16, q17, q18, q19]) (S := Y T p kv)
    (fun j ρ' S' => ∃ r16, ρ' = [q0, q1, q2, q3, q4, some (.int x), q6, q7, q8, q9, some (.ref p), q11, q12, q13, q14, q15, r16, q17, q18, q19] ∧ S' = Y T p (crossN (2 * (x : Int)) kv j) ∧ j ≤ bits)
    ⟨q16, rfl, rfl, Nat.zero_le _⟩ (fun _ _ _ _ => rfl) (fun j z ρ' S' hj ⟨r16, h1, h2, h3⟩ => by
      subst h1 h2
      obtain ⟨hj2, rfl⟩ := rng_at0 hj
      have hlj := Lim.cross (x := 2 * (x : Int)) hl j
      have hi := fun ρ => ist_p (S := Y T p (crossN (2 * (x : Int)) kv j)) (x := 2 * (x : Int)) (y := -2 - (j : Int)) (d := crs) (ρ := ρ) (Y_g hp) hlj (by omega)
      simp only [Y_s] at hi
      refine ⟨_, _, ?_, some (.int j), rfl, rfl, by omega⟩
      simp [b_law_layout_2, varR, linesz_is, hi, crossN])
  rw [rng_len] at e1
  exact ⟨r16, e1⟩
theorem lins_run {ni bits : Nat} (hp : p < T.length) (hbits : bits ≤ 3) (hni : ni ≤ 3) (hl : Lim b kv) (hb : b ≤ 50000) {q0 q1 q2 q3 q5 q6 q7 q8 q9 q11 q12 q13 q14 q15 q16 q17 q18 q19 : Option D} :
    ∃ r5 r16, forL (ckS none) (fun x ρ S => (asgO (.var 5) x ρ S).seq (run (callN Fs (k + 1)) b_law_layout_3)) (rngD 0 ni) [q0, q1, q2, q3, some (.int bits), q5, q6, q7, q8, q9, some (.ref p), q11, q12, q13, q14, q15, q16, q17, q18, q19] (Y T p kv) =
      .nx [q0, q1, q2, q3, some (.int bits), r5, q6, q7, q8, q9, some (.ref p), q11, q12, q13, q14, q15, r16, q17, q18, q19] (Y T p (insN bits kv ni)) := by
  obtain ⟨ρ1, S1, e1, r5, r16, rfl, rfl, -⟩ := for_inv (ck := ckS none) (f := fun x ρ S => (asgO (.var 5) x ρ S).seq (run (callN Fs (k + 1)) b_law_layout_3)) (ds := rngD 0 ni) (ρ := [q0, q1, q2, q3, some (.int bits), q5, q6, q7, q8, q9, some (.ref p), q11, q12, q13, q14, q15, q16, q17, q18, q19]) (S := Y T p kv)
    (fun j ρ' S' => ∃ r5 r16, ρ' = [q0, q1, q2, q3, some (.int bits), r5, q6, q7, q8, q9, some (.ref p), q11, q12, q13, q14, q15, r16, q17, q18, q19] ∧ S' = Y T p (insN bits kv j) ∧ j ≤ ni)
    ⟨q5, q16, rfl, rfl, Nat.zero_le _⟩ (fun _ _ _ _ => rfl) (fun j z ρ' S' hj ⟨r5, r16, h1, h2, h3⟩ => by
      subst h1 h2
      obtain ⟨hj2, rfl⟩ := rng_at0 hj
      have hlj := Lim.ins (bits := bits) hl j
      have hbj : b + (2 * bits + 2) * j ≤ 60000 := by
        have : (2 * bits + 2) * j ≤ 8 * 3 := Nat.mul_le_mul (by omega) (by omega)
        omega
      have hline := lline_ok (k := k) (S := Y T p (insN bits kv j)) (p := p) (x := 2 * (j : Int)) (y := -2 - (bits : Int)) (lx := 2 * (j : Int)) (ly := -1) (n := bits + 1) wS hlj (by omega) (by omega) (by omega) (Y_g hp)
      rw [Y_s] at hline
      have hl2 := Lim.line (dx := 0) (dy := 1) (w := 3) (bits + 1) _ _ (2 * (j : Int)) (-2 - (bits : Int)) hlj
      obtain ⟨s16, ec⟩ := lcross_run (k := k + 1) (T := T) (x := j) (bits := bits) hp hl2 (by omega) (q0 := q0) (q1 := q1) (q2 := q2) (q3 := q3) (q4 := some (.int bits)) (q6 := q6) (q7 := q7) (q8 := q8) (q9 := q9) (q11 := q11) (q12 := q12) (q13 := q13) (q14 := q14) (q15 := q15) (q16 := r16) (q17 := q17) (q18 := q18) (q19 := q19)
      simp only [asgO_var, seq_nx] at ec
      have rr : ∀ S', rngR [.int (bits : Int)] S' = .ok ⟨rngD 0 bits, none⟩ S' := fun S' => by rw [rngR1 _ (by omega)]; rfl
      refine ⟨_, _, ?_, some (.int j), s16, rfl, rfl, by omega⟩
      have a1 : run (callN Fs (k + 1)) (.ex (.call i_law_line (.cons (.var 10) (.cons (.tup (.cons (.bin .mul (.int 2) (.var 5)) (.cons (.bin .sub (.neg (.int 2)) (.var 4)) .nil))) (.cons (.tup (.cons (.bin .mul (.int 2) (.var 5)) (.cons (.neg (.int 1)) .nil))) (.cons (.int 3) .nil)))))) [q0, q1, q2, q3, some (.int bits), some (.int j), q6, q7, q8, q9, some (.ref p), q11, q12, q13, q14, q15, r16, q17, q18, q19] (Y T p (insN bits kv j)) = .nx [q0, q1, q2, q3, some (.int bits), some (.int j), q6, q7, q8, q9, some (.ref p), q11, q12, q13, q14, q15, r16, q17, q18, q19] (Y T p (lineP 0 1 3 (insN bits kv j) (2 * (j : Int)) (-2 - (bits : Int)) (bits + 1))) := by
        simp [varR, linesz_is, hline]
      simp only [asgO_var, seq_nx, List.set_cons_succ, List.set_cons_zero]
      rw [b_law_layout_3, run_seq, a1, seq_nx, run_seq, run_for]
      simp only [itr_rng, evs_cons, ev_var, varR, List.getElem?_cons_zero, List.getElem?_cons_succ, bind_ok, evs_nil, rr, of_ok, asgO_var, seq_nx]
      rw [ec, seq_nx, run_skip]
      rfl)
  rw [rng_len] at e1
  exact ⟨r5, r16, e1⟩
theorem louts_run {ps : List (Int × Int)} (hp : p < T.length) (hl : Lim b kv) (hb : b + ps.length ≤ 100000) {q0 q1 q2 q3 q4 q5 q6 q7 q8 q9 q11 q12 q13 q14 q15 q16 q17 q18 q19 : Option D} :
    ∃ r19, forL (ckS none) (fun x ρ S => (asgO (.var 19) x ρ S).seq (run (callN Fs k) b_law_layout_1)) (ps.map Ng.prD) [q0, q1, q2, q3, q4, q5, q6, q7, q8, q9, some (.ref p), q11, q12, q13, q14, q15, q16, q17, q18, q19] (Y T p kv) =
      .nx [q0, q1, q2, q3, q4, q5, q6, q7, q8, q9, some (.ref p), q11, q12, q13, q14, q15, q16, q17, q18, r19] (Y T p (outsP kv ps)) := by
  obtain ⟨ρ1, S1, e1, r19, rfl, rfl, -⟩ := for_inv (ck := ckS none) (f := fun x ρ S => (asgO (.var 19) x ρ S).seq (run (callN Fs k) b_law_layout_1)) (ds := ps.map Ng.prD) (ρ := [q0, q1, q2, q3, q4, q5, q6, q7, q8, q9, some (.ref p), q11, q12, q13, q14, q15, q16, q17, q18, q19]) (S := Y T p kv)
    (fun j ρ' S' => ∃ r19, ρ' = [q0, q1, q2, q3, q4, q5, q6, q7, q8, q9, some (.ref p), q11, q12, q13, q14, q15, q16, q17, q18, r19] ∧ S' = Y T p (outsP kv (ps.take j)) ∧ j ≤ ps.length)
    ⟨q19, rfl, rfl, Nat.zero_le _⟩ (fun _ _ _ _ => rfl) (fun j z ρ' S' hj ⟨r19, h1, h2, h3⟩ => by
      subst h1 h2
      rw [List.getElem?_map] at hj
      obtain ⟨q, hq, rfl⟩ := Option.map_eq_some_iff.mp hj
      have hj2 := (List.getElem?_eq_some_iff.mp hq).1
      have hlj := Lim.outs (ps.take j) hl
      rw [List.length_take, Nat.min_eq_left (by omega)] at hlj
      have hi := fun ρ => ist_p (S := Y T p (outsP kv (ps.take j))) (x := q.1) (y := q.2) (d := ow 3) (ρ := ρ) (Y_g hp) hlj (by omega)
      simp only [Y_s] at hi
      have ht : ps.take (j + 1) = ps.take j ++ [q] := by rw [List.take_succ, hq]; rfl
      refine ⟨_, _, ?_, some (Ng.prD q), rfl, rfl, by omega⟩
      rw [ht, outsP_snoc]
      simp [b_law_layout_1, varR, linesz_is, hi])
  rw [List.length_map, List.take_length] at e1
  exact ⟨r19, e1⟩
end
end Lw

set_option Elab.async false
set_option linter.all false
set_option maxRecDepth 100000
set_option maxHeartbeats 2000000
namespace Lw
open PySem L2 Ng
theorem fin_tupd {S : Store} {cs : List Cell} {kv : KV} {i : Nat} {xs : List D} (hi : cs[i]? = some (.dct kv)) (h2 : (Cell.dct kv).refs = []) (h3 : D.refsL xs = []) : fin S (.tup (.ref (S.length + i) :: xs)) (S ++ cs) = .ok (.tup (.ref S.length :: xs)) (S ++ [.dct kv]) := by
  have gi : (S ++ cs)[S.length + i]? = some (.dct kv) := by rw [getk, hi]
  have hd : D.refs (.tup (.ref (S.length + i) :: xs)) = [S.length + i] := by
    rw [refs_tup, refsL_cons, h3]; rfl
  have hr : reach (S ++ cs) S.length 100000 [S.length + i] [] = [S.length + i] := by
    rw [show (100000 : Nat) = 99999 + 1 from rfl, reach_step gi (by omega) (by simp), h2, List.append_nil, reach_nil]
    rfl
  have ri : renOf S.length [S.length + i] (S.length + i) = S.length := by
    unfold renOf
    rw [if_neg (by omega), List.findIdx_cons, show (S.length + i == S.length + i) = true from beq_self_eq_true _]
    rfl
  have hcr : (Cell.dct kv).ren (renOf S.length [S.length + i]) = .dct kv := Cell.ren_id fun n hn => by rw [h2] at hn; cases hn
  have hxr : D.renL (renOf S.length [S.length + i]) xs = xs := D.renL_id _ fun n hn => by rw [h3] at hn; cases hn
  have li : S.length + i < (S ++ cs).length := (List.getElem?_eq_some_iff.mp gi).1
  rw [fin_gen (L := [S.length + i]) (chg_app _ _) (fun f => by rw [keepE_app]; simp) (by simp) (by rw [hd]; exact hr) ?_]
  · simp only [List.filterMap_cons, List.filterMap_nil, gi, Option.map_some, hcr, D.ren, D.renL, ri, hxr]
    simp
  · rw [hd]
    unfold keepC
    simp only [List.flatMap_cons, List.flatMap_nil, gi, h2]
    simp
    have : i < cs.length := by rw [List.length_append] at li; omega
    exact this
section
variable {k : Nat} {S : Store}
theorem llay_ok {st : Int} {ni no g : Nat} {rows : List (Int × List Int)} (M : MOk st ni no rows) (hg : S[g]? = some (.lst (rows.map rowD))) :
    callN Fs (k + 3) i_law_layout [.ref g, .int st, .int ni, .int no] S = .ok (.tup [.ref S.length, .tup ((layI st ni).map Ng.prD), .tup ((layO rows st ni no).map Ng.prD)]) (S ++ [.dct (layL rows st ni no)]) := by
  rw [cl_law_layout]
  unfold layL layI layO
  obtain ⟨hts, hlen, hs1, hb3⟩ := ts_ok M
  have hL1 : 1 ≤ ni + bitsF st ni := by unfold bitsF; split <;> omega
  have hni := M.hni
  have hno := M.hno
  obtain ⟨hsb, hsb2⟩ := sbN_ok M.hst
  obtain ⟨l1, l2, l3, l4⟩ := layP_lim hts hlen M.hni M.hno.2 hb3
  obtain ⟨z1, a1⟩ := bits_run (k := k + 1) (S := S) M.hst (q0 := some (.ref g)) (q2 := some (.int ni)) (q3 := some (.int no)) (q4 := none) (q5 := none) (q6 := none) (q7 := none) (q8 := none) (q9 := none) (q10 := none) (q11 := none) (q12 := none) (q13 := none) (q14 := none) (q15 := none) (q16 := none) (q17 := none) (q18 := none) (q19 := none)
  obtain ⟨T0, hT0⟩ : ∃ T0, T0 = TM rows ni (sbN st) rows.length := ⟨_, rfl⟩
  have hT0l : T0.length ≤ 64 := by rw [hT0]; exact Nat.le_trans (TM_len _ _ _ _) (rows_le M)
  have hlt := lterms_ok (k := k) (S := S ++ z1) M hsb (get_lo hg)
  rw [← hT0] at hlt
  have a2 : run (callN Fs (k + 2)) (.asg (.var 6) (.call i_law_terms (.cons (.var 0) (.cons (.var 2) (.cons (.var 4) .nil))))) [some (.ref g), some (.int st), some (.int ni), some (.int no), some (.int (sbN st : Nat)), none, none, none, none, none, none, none, none, none, none, none, none, none, none, none] (S ++ z1) =
      .nx [some (.ref g), some (.int st), some (.int ni), some (.int no), some (.int (sbN st : Nat)), none, some (.ref (S ++ z1).length), none, none, none, none, none, none, none, none, none, none, none, none, none] (S ++ z1 ++ [.lst (T0.map termD)]) := by
    rw [run_asg, ev_call]
    simp only [evs_cons, ev_var, varR, List.getElem?_cons_zero, List.getElem?_cons_succ, bind_ok, evs_nil, hlt, of_ok, asgO_var]
    rfl
  obtain ⟨R0, hR0⟩ : ∃ R0, R0 = S ++ z1 := ⟨_, rfl⟩
  rw [← hR0] at a2
  obtain ⟨l, t, a3, ht⟩ : ∃ (l : Store) (t : Nat), run (callN Fs (k + 2)) (.ite (.cmp .eq (.bin .add (.var 2) (.var 4)) (.int 0)) (.seq (.asg (.var 4) (.int 1))
    (.seq (.asg (.var 6) (.lc [7] (.var 7) (.var 6) (.bl true) (.tup (.cons (.tup (.cons (.int 0) .nil)) (.cons (.bin .add (.tup (.cons (.int 0) .nil)) (.ix (.var 7) (.int 1))) .nil)))))
    .skip)) .skip) [some (.ref g), some (.int st), some (.int ni), some (.int no), some (.int (sbN st : Nat)), none, some (.ref R0.length), none, none, none, none, none, none, none, none, none, none, none, none, none] (R0 ++ [.lst (T0.map termD)]) =
      .nx [some (.ref g), some (.int st), some (.int ni), some (.int no), some (.int (bitsF st ni : Nat)), none, some (.ref t), none, none, none, none, none, none, none, none, none, none, none, none, none] (R0 ++ l) ∧ (R0 ++ l)[t]? = some (.lst ((tsF rows st ni).map termD)) := by
    by_cases h0 : sbN st + ni = 0
    · have e1 : bitsF st ni = 1 := by unfold bitsF; rw [if_pos h0]
      have e2 : tsF rows st ni = T0.map fun t => ([0], 0 :: t.2) := by unfold tsF; rw [if_pos h0, hT0]
      have h0' : (ni : Int) + ((sbN st : Nat) : Int) = 0 := by omega
      have hlc : ev (callN Fs (k + 2)) (.lc [7] (.var 7) (.var 6) (.bl true) (.tup (.cons (.tup (.cons (.int 0) .nil)) (.cons (.bin .add (.tup (.cons (.int 0) .nil)) (.ix (.var 7) (.int 1))) .nil)))) [some (.ref g), some (.int st), some (.int ni), some (.int no), some (.int 1), none, some (.ref R0.length), none, none, none, none, none, none, none, none, none, none, none, none, none] (R0 ++ [.lst (T0.map termD)]) = .ok (.ref (R0.length + 1)) (R0 ++ [.lst (T0.map termD), .lst ((tsF rows st ni).map termD)]) := by
        have hi : itr (callN Fs (k + 2)) (.var 6) [some (.ref g), some (.int st), some (.int ni), some (.int no), some (.int 1), none, some (.ref R0.length), none, none, none, none, none, none, none, none, none, none, none, none, none] (R0 ++ [.lst (T0.map termD)]) = .ok ⟨T0.map termD, some (R0.length, .lst (T0.map termD))⟩ (R0 ++ [.lst (T0.map termD)]) := by
          rw [itr_var]
          simp only [varR, List.getElem?_cons_zero, List.getElem?_cons_succ, bind_ok]
          rw [itD_lst (ds := T0.map termD) (by simp)]
        rw [ev_lc, hi, bind_ok, lc_pure (g := fun d => match d with | .tup [a, .tup b] => some (.tup [.tup [.int 0], .tup (.int 0 :: b)]) | _ => none) (by simp; omega) (fun c => by simp) (fun d hd c => ?_)]
        · have e3 : (T0.map termD).filterMap (fun (d : D) => match d with | .tup [a, .tup b] => some (D.tup [.tup [.int 0], .tup (.int 0 :: b)]) | _ => none) = (tsF rows st ni).map termD := by
            rw [e2]
            clear hlt hT0 hT0l a1 a2 hi e2
            induction T0 with
            | nil => rfl
            | cons x xs ih =>
              rw [List.map_cons, List.filterMap_cons, List.map_cons, List.map_cons, ← ih]
              rfl
          simp only [e3]
          simp
        · obtain ⟨u, hu, rfl⟩ := List.mem_map.mp hd
          have hul : u.2.length ≤ 100 := by
            rw [hT0] at hu
            obtain ⟨q1, q2, q3⟩ := tm_ok M (sbN st) rows.length u hu
            omega
          have hcat : ∀ S, bin2 .add (.tup [.int 0]) (.tup (u.2.map D.int)) S = .ok (.tup (.int 0 :: u.2.map D.int)) S := fun S => by
            rw [b2_tcat (by simp [linesz_is]; omega)]; rfl
          simp [lcF, asgT, wipeE, varR, linesz_is, hcat]
      refine ⟨[.lst (T0.map termD), .lst ((tsF rows st ni).map termD)], R0.length + 1, ?_, by simp⟩
      rw [e1]
      have b1 : tst (callN Fs (k + 2)) (.cmp .eq (.bin .add (.var 2) (.var 4)) (.int 0)) [some (.ref g), some (.int st), some (.int ni), some (.int no), some (.int (sbN st : Nat)), none, some (.ref R0.length), none, none, none, none, none, none, none, none, none, none, none, none, none] (R0 ++ [.lst (T0.map termD)]) = .ok true (R0 ++ [.lst (T0.map termD)]) := by
        simp only [tst_cmp, ev_bin, ev_var, varR, List.getElem?_cons_zero, List.getElem?_cons_succ, bind_ok, b2_add, ev_int, cT_eq, h0', decide_true]
      rw [run_ite, b1, of_ok, cond_true, run_seq, run_asg, ev_int, of_ok, asgO_var, seq_nx, run_seq, run_asg]
      simp only [List.set_cons_succ, List.set_cons_zero]
      rw [hlc, of_ok, asgO_var, seq_nx, run_skip]
      rfl
    · have e1 : bitsF st ni = sbN st := by unfold bitsF; rw [if_neg h0]
      have e2 : tsF rows st ni = T0 := by unfold tsF; rw [if_neg h0, hT0]
      have h0' : ¬ (ni : Int) + ((sbN st : Nat) : Int) = 0 := by omega
      refine ⟨[.lst (T0.map termD)], R0.length, ?_, by rw [e2]; simp⟩
      rw [e1]
      have b1 : tst (callN Fs (k + 2)) (.cmp .eq (.bin .add (.var 2) (.var 4)) (.int 0)) [some (.ref g), some (.int st), some (.int ni), some (.int no), some (.int (sbN st : Nat)), none, some (.ref R0.length), none, none, none, none, none, none, none, none, none, none, none, none, none] (R0 ++ [.lst (T0.map termD)]) = .ok false (R0 ++ [.lst (T0.map termD)]) := by
        simp only [tst_cmp, ev_bin, ev_var, varR, List.getElem?_cons_zero, List.getElem?_cons_succ, bind_ok, b2_add, ev_int, cT_eq, decide_eq_false h0']
      rw [run_ite, b1, of_ok, cond_false, run_skip]
  obtain ⟨Q, hQ⟩ : ∃ Q, Q = R0 ++ l := ⟨_, rfl⟩
  rw [← hQ] at a3 ht
  generalize bitsF st ni = bits at *
  generalize tsF rows st ni = ts at *
  have x8 : (ni : Int) + bits = ((ni + bits : Nat) : Int) := by omega
  have x9 : (bits : Int) + no = ((bits + no : Nat) : Int) := by omega
  obtain ⟨L, hL⟩ : ∃ L, L = ni + bits := ⟨_, rfl⟩
  obtain ⟨U, hU⟩ : ∃ U, U = bits + no := ⟨_, rfl⟩
  have hLU : L + U ≤ 20 := by omega
  obtain ⟨E0, hE0⟩ : ∃ E0 : List (Option D), E0 = [some (.ref g), some (.int st), some (.int ni), some (.int no), some (.int bits), none, some (.ref t), none] := ⟨_, rfl⟩
  have a4 : run (callN Fs (k + 2)) (.asg (.var 8) (.bin .add (.var 2) (.var 4))) [some (.ref g), some (.int st), some (.int ni), some (.int no), some (.int bits), none, some (.ref t), none, none, none, none, none, none, none, none, none, none, none, none, none] Q = .nx [some (.ref g), some (.int st), some (.int ni), some (.int no), some (.int bits), none, some (.ref t), none, some (.int L), none, none, none, none, none, none, none, none, none, none, none] Q := by
    simp [varR, hL]
  have a5 : run (callN Fs (k + 2)) (.asg (.var 9) (.bin .add (.var 4) (.var 3))) [some (.ref g), some (.int st), some (.int ni), some (.int no), some (.int bits), none, some (.ref t), none, some (.int L), none, none, none, none, none, none, none, none, none, none, none] Q = .nx [some (.ref g), some (.int st), some (.int ni), some (.int no), some (.int bits), none, some (.ref t), none, some (.int L), some (.int U), none, none, none, none, none, none, none, none, none, none] Q := by
    simp [varR, hU]
  have a6 : run (callN Fs (k + 2)) (.asg (.var 10) .dd0) [some (.ref g), some (.int st), some (.int ni), some (.int no), some (.int bits), none, some (.ref t), none, some (.int L), some (.int U), none, none, none, none, none, none, none, none, none, none] Q = .nx [some (.ref g), some (.int st), some (.int ni), some (.int no), some (.int bits), none, some (.ref t), none, some (.int L), some (.int U), some (.ref Q.length), none, none, none, none, none, none, none, none, none] (Q ++ [.dct []]) := by
    simp [varR]
  have hbm : bin2 .mul (.ref (Q.length + 1)) (.int U) (Q ++ [.dct [], .lst [.bl false]]) = .ok (.ref (Q.length + 2)) (Q ++ [.dct [], .lst [.bl false], .lst (List.replicate U (.bl false))]) := by
    rw [lst_mul (c := .bl false) (by simp) (by omega)]
    simp
  have a7 : run (callN Fs (k + 2)) (.asg (.var 11) (.bin .mul (.lst (.cons (.bl false) .nil)) (.var 9))) [some (.ref g), some (.int st), some (.int ni), some (.int no), some (.int bits), none, some (.ref t), none, some (.int L), some (.int U), some (.ref Q.length), none, none, none, none, none, none, none, none, none] (Q ++ [.dct []]) = .nx [some (.ref g), some (.int st), some (.int ni), some (.int no), some (.int bits), none, some (.ref t), none, some (.int L), some (.int U), some (.ref Q.length), some (.ref (Q.length + 2)), none, none, none, none, none, none, none, none] (Q ++ [.dct [], .lst [.bl false], .lst (List.replicate U (.bl false))]) := by
    simp [varR, linesz_is, hbm]
  have hm1 := fun S => tup_mul (-1) (by omega : 1 ≤ L) (by omega : L ≤ 1000) S
  have hm2 := fun S => tup_mul 1 (by omega : 1 ≤ U) (by omega : U ≤ 1000) S
  have hcat : bin2 .add (.ref t) (.ref (Q.length + 3)) (Q ++ [.dct [], .lst [.bl false], .lst (List.replicate U (.bl false)), .lst [.tup [wD (List.replicate L (-1)), wD (List.replicate U 1)]]]) = .ok (.ref (Q.length + 4)) (Q ++ [.dct [], .lst [.bl false], .lst (List.replicate U (.bl false)), .lst [.tup [wD (List.replicate L (-1)), wD (List.replicate U 1)]], .lst ((linesL ts L U).map termD)]) := by
    rw [b2_cat (xs := ts.map termD) (ys := [.tup [wD (List.replicate L (-1)), wD (List.replicate U 1)]]) (get_lo ht) (by simp) (by simp [linesz_is]; omega)]
    simp
  have a8 : run (callN Fs (k + 2)) (.asg (.var 12) (.bin .add (.var 6) (.lst (.cons (.tup (.cons (.bin .mul (.tup (.cons (.neg (.int 1)) .nil)) (.var 8)) (.cons (.bin .mul (.tup (.cons (.int 1) .nil)) (.var 9)) .nil))) .nil)))) [some (.ref g), some (.int st), some (.int ni), some (.int no), some (.int bits), none, some (.ref t), none, some (.int L), some (.int U), some (.ref Q.length), some (.ref (Q.length + 2)), none, none, none, none, none, none, none, none] (Q ++ [.dct [], .lst [.bl false], .lst (List.replicate U (.bl false))]) =
      .nx [some (.ref g), some (.int st), some (.int ni), some (.int no), some (.int bits), none, some (.ref t), none, some (.int L), some (.int U), some (.ref Q.length), some (.ref (Q.length + 2)), some (.ref (Q.length + 4)), none, none, none, none, none, none, none] (Q ++ [.dct [], .lst [.bl false], .lst (List.replicate U (.bl false)), .lst [.tup [wD (List.replicate L (-1)), wD (List.replicate U 1)]], .lst ((linesL ts L U).map termD)]) := by
    generalize wD (List.replicate L (-1)) = v1 at *
    generalize wD (List.replicate U 1) = v2 at *
    simp [varR, linesz_is, hm1, hm2, hcat]
  obtain ⟨T, hT⟩ : ∃ T, T = Q ++ [.dct [], .lst [.bl false], .lst (List.replicate U (.bl false)), .lst [.tup [wD (List.replicate L (-1)), wD (List.replicate U 1)]], .lst ((linesL ts L U).map termD)] := ⟨_, rfl⟩
  rw [← hT] at a8
  have hTl : T.length = Q.length + 5 := by rw [hT]; simp
  have hw : WOk T Q.length (Q.length + 2) := ⟨by omega, by omega, by omega⟩
  have hTm : T[Q.length + 4]? = some (.lst ((linesL ts L U).map termD)) := by rw [hT, getk]; rfl
  have hW0 : T = W T Q.length (Q.length + 2) [] (List.replicate U false) := by
    unfold W
    have g1 : T[Q.length]? = some (.dct []) := by rw [hT]; simp
    have g2 : T[Q.length + 2]? = some (.lst ((List.replicate U false).map D.bl)) := by rw [hT, getk, List.map_replicate]; rfl
    rw [set_same g1, set_same g2]
  have hlenT : biD .len [.ref (Q.length + 4)] T = .ok (.int ((ts.length + 1 : Nat) : Int)) T := by
    rw [len_lst hTm]; simp
  obtain ⟨r5, r13, r14, er⟩ := lrows_run (k := k + 1) (T := T) (p := Q.length) (n := Q.length + 2) (m := Q.length + 4) (ts := ts) (L := L) (S := U) (bg := List.replicate U false) hw (by rw [hL, hU]; exact hts) hLU (by omega) (by simp) lim0 (by omega) hTm (by omega) (by omega)
    (q0 := some (.ref g)) (q1 := some (.int st)) (q2 := some (.int ni)) (q3 := some (.int no)) (q4 := some (.int bits)) (q5 := none) (q6 := some (.ref t)) (q7 := none) (q13 := none) (q14 := none) (q15 := none) (q16 := none) (q17 := none) (q18 := none) (q19 := none)
  rw [← hW0] at er
  have hlay : layP ts ni no bits = outsP (insN bits (statesN ni L (2 * (ts.length + 1)) (rowsN L (linesL ts L U) ([], List.replicate U false) (ts.length + 1)).1 bits) ni) (outL L bits (2 * (ts.length + 1)) no) := by
    rw [hL, hU]; rfl
  rw [← hL, ← hU] at l1 l2 l3
  generalize (rowsN L (linesL ts L U) ([], List.replicate U false) (ts.length + 1)) = stt at *
  obtain ⟨K1, bg1⟩ := stt
  simp only at er l1 l2 l3 hlay
  obtain ⟨T', hT'⟩ : ∃ T', T' = T.set (Q.length + 2) (.lst (bg1.map D.bl)) := ⟨_, rfl⟩
  have hT'l : T'.length = Q.length + 5 := by rw [hT', List.length_set, hTl]
  have hWY : W T Q.length (Q.length + 2) K1 bg1 = Y T' Q.length K1 := by
    unfold W Y
    rw [hT', List.set_comm _ _ (by omega)]
  rw [hWY] at er
  have hp : Q.length < T'.length := by omega
  obtain ⟨s16, s17, eS⟩ := lstates_run (k := k + 1) (T := T') (p := Q.length) (ni := ni) (bits := bits) (L := L) (bot := 2 * (ts.length + 1)) hp hni hb3 (by omega) (by omega) l1 (by omega)
    (q0 := some (.ref g)) (q1 := some (.int st)) (q3 := some (.int no)) (q4 := some (.int bits)) (q5 := r5) (q6 := some (.ref t)) (q7 := none) (q9 := some (.int U)) (q11 := some (.ref (Q.length + 2))) (q12 := some (.ref (Q.length + 4))) (q13 := r13) (q14 := r14) (q16 := none) (q17 := none) (q18 := none) (q19 := none)
  generalize statesN ni L (2 * (ts.length + 1)) K1 bits = K2 at *
  obtain ⟨u5, u16, eI⟩ := lins_run (k := k + 1) (T := T') (p := Q.length) (ni := ni) (bits := bits) hp hb3 hni l2 (by omega)
    (q0 := some (.ref g)) (q1 := some (.int st)) (q2 := some (.int ni)) (q3 := some (.int no)) (q5 := r5) (q6 := some (.ref t)) (q7 := none) (q8 := some (.int L)) (q9 := some (.int U)) (q11 := some (.ref (Q.length + 2))) (q12 := some (.ref (Q.length + 4))) (q13 := r13) (q14 := r14) (q15 := some (.int ((2 * (ts.length + 1) : Nat) : Int))) (q16 := s16) (q17 := s17) (q18 := none) (q19 := none)
  generalize insN bits K2 ni = K3 at *
  generalize hpo : outL L bits (2 * (ts.length + 1)) no = po at *
  have hpol : po.length = no := by rw [← hpo]; simp [outL]
  have rr : ∀ (n : Nat) S', n ≤ 100 → rngR [.int (n : Int)] S' = .ok ⟨rngD 0 n, none⟩ S' := fun n S' h => by rw [rngR1 _ (by omega)]; rfl
  have lcO : ∀ B, ev (callN Fs (k + 2)) (.lc [5] (.var 5) (.rng (.cons (.var 3) .nil)) (.bl true) (.tup (.cons (.bin .add (.bin .add (.bin .mul (.int 2) (.var 8)) (.bin .mul (.int 2) (.bin .add (.var 4) (.var 5)))) (.int 1)) (.cons (.var 15) .nil)))) [some (.ref g), some (.int st), some (.int ni), some (.int no), some (.int bits), u5, some (.ref t), none, some (.int L), some (.int U), some (.ref Q.length), some (.ref (Q.length + 2)), some (.ref (Q.length + 4)), r13, r14, some (.int ((2 * (ts.length + 1) : Nat) : Int)), u16, s17, none, none] B =
      .ok (.ref B.length) (B ++ [.lst (po.map Ng.prD)]) := fun B => by
    rw [lc_rngF (n := no) (F := fun i => Ng.prD (2 * (L : Int) + 2 * ((bits : Int) + i) + 1, ((2 * (ts.length + 1) : Nat) : Int))) ?_ (by omega) (fun i hi c => ?_)]
    · rw [← hpo]; simp [outL]
    · simp [varR, rr no _ (by omega)]
    · simp [lcF, asgT, wipeE, varR, linesz_is]
  obtain ⟨B1, hB1⟩ : ∃ B1, B1 = Y T' Q.length K3 := ⟨_, rfl⟩
  have hB1l : B1.length = Q.length + 5 := by rw [hB1]; unfold Y; rw [List.length_set, hT'l]
  have hTT : B1 ++ [.lst (po.map Ng.prD)] = Y (T' ++ [.lst (po.map Ng.prD)]) Q.length K3 := by
    rw [hB1]; unfold Y; rw [List.set_append_left _ _ hp]
  obtain ⟨u19, eO⟩ := louts_run (k := k + 2) (T := T' ++ [.lst (po.map Ng.prD)]) (p := Q.length) (ps := po) (by simp; omega) l3 (by omega)
    (q0 := some (.ref g)) (q1 := some (.int st)) (q2 := some (.int ni)) (q3 := some (.int no)) (q4 := some (.int bits)) (q5 := u5) (q6 := some (.ref t)) (q7 := none) (q8 := some (.int L)) (q9 := some (.int U)) (q11 := some (.ref (Q.length + 2))) (q12 := some (.ref (Q.length + 4))) (q13 := r13) (q14 := r14) (q15 := some (.int ((2 * (ts.length + 1) : Nat) : Int))) (q16 := u16) (q17 := s17) (q18 := some (.tup (po.map Ng.prD))) (q19 := none)
  have lcI : ∀ B q19, ev (callN Fs (k + 2)) (.lc [5] (.var 5) (.rng (.cons (.var 2) .nil)) (.bl true) (.tup (.cons (.bin .mul (.int 2) (.var 5)) (.cons (.bin .sub (.neg (.int 2)) (.var 4)) .nil)))) [some (.ref g), some (.int st), some (.int ni), some (.int no), some (.int bits), u5, some (.ref t), none, some (.int L), some (.int U), some (.ref Q.length), some (.ref (Q.length + 2)), some (.ref (Q.length + 4)), r13, r14, some (.int ((2 * (ts.length + 1) : Nat) : Int)), u16, s17, some (.tup (po.map Ng.prD)), q19] B =
      .ok (.ref B.length) (B ++ [.lst ((inL ni bits).map Ng.prD)]) := fun B q19 => by
    rw [lc_rngF (n := ni) (F := fun i => Ng.prD (2 * (i : Int), -2 - (bits : Int))) ?_ (by omega) (fun i hi c => ?_)]
    · simp [inL]
    · simp [varR, rr ni _ (by omega)]
    · simp [lcF, asgT, wipeE, varR, linesz_is]
  have a15 : ∀ B, B[Q.length + 4]? = some (.lst ((linesL ts L U).map termD)) → run (callN Fs (k + 2)) (.asg (.var 15) (.bin .mul (.int 2) (.bi .len (.cons (.var 12) .nil)))) [some (.ref g), some (.int st), some (.int ni), some (.int no), some (.int bits), r5, some (.ref t), none, some (.int L), some (.int U), some (.ref Q.length), some (.ref (Q.length + 2)), some (.ref (Q.length + 4)), r13, r14, none, none, none, none, none] B =
      .nx [some (.ref g), some (.int st), some (.int ni), some (.int no), some (.int bits), r5, some (.ref t), none, some (.int L), some (.int U), some (.ref Q.length), some (.ref (Q.length + 2)), some (.ref (Q.length + 4)), r13, r14, some (.int ((2 * (ts.length + 1) : Nat) : Int)), none, none, none, none] B := fun B hB => by
    have : biD .len [.ref (Q.length + 4)] B = .ok (.int ((ts.length + 1 : Nat) : Int)) B := by rw [len_lst hB]; simp
    have e3 : ((2 * (ts.length + 1) : Nat) : Int) = 2 * ((ts.length + 1 : Nat) : Int) := by omega
    rw [e3]
    generalize ((ts.length + 1 : Nat) : Int) = x3 at *
    simp [varR, this]
  have hY4 : (Y T' Q.length K1)[Q.length + 4]? = some (.lst ((linesL ts L U).map termD)) := by
    unfold Y
    rw [List.getElem?_set_ne (by omega), hT', List.getElem?_set_ne (by omega), hTm]
  have i9 : itr (callN Fs (k + 2)) (.rng (.cons (.bi .len (.cons (.var 12) .nil)) .nil)) [some (.ref g), some (.int st), some (.int ni), some (.int no), some (.int bits), none, some (.ref t), none, some (.int L), some (.int U), some (.ref Q.length), some (.ref (Q.length + 2)), some (.ref (Q.length + 4)), none, none, none, none, none, none, none] T = .ok ⟨rngD 0 (ts.length + 1), none⟩ T := by
    simp only [itr_rng, evs_cons, ev_bi, ev_var, varR, List.getElem?_cons_zero, List.getElem?_cons_succ, bind_ok, evs_nil, hlenT, rr (ts.length + 1) _ (by omega)]
  -- all together
  rw [c_law_layout, run_seq, a1, seq_nx, run_seq, ← hR0, a2, seq_nx, run_seq, a3, seq_nx, run_seq, a4, seq_nx, run_seq, a5, seq_nx, run_seq, a6, seq_nx, run_seq, a7, seq_nx, run_seq, a8, seq_nx, run_seq, run_for, i9, of_ok]
  simp only
  rw [er, seq_nx, run_seq, a15 _ hY4, seq_nx, run_seq, run_for]
  simp only [itr_rng, evs_cons, ev_var, varR, List.getElem?_cons_zero, List.getElem?_cons_succ, bind_ok, evs_nil, rr bits _ (by omega : bits ≤ 100), of_ok]
  rw [eS, seq_nx, run_seq, run_for]
  simp only [itr_rng, evs_cons, ev_var, varR, List.getElem?_cons_zero, List.getElem?_cons_succ, bind_ok, evs_nil, rr ni _ (by omega : ni ≤ 100), of_ok]
  rw [eI, seq_nx, ← hB1, run_seq, run_asg, ev_bi, evs_cons, lcO, bind_ok, evs_nil, bind_ok, bind_ok, bi_tuple_lst (ds := po.map Ng.prD) (by simp), of_ok, asgO_var, seq_nx]
  simp only [List.set_cons_succ, List.set_cons_zero]
  rw [run_seq, run_for, itr_var]
  simp only [varR, List.getElem?_cons_zero, List.getElem?_cons_succ, bind_ok, itD_tup, of_ok]
  rw [hTT, eO, seq_nx, run_seq, run_ret, ev_tup, evs_cons, ev_var]
  simp only [varR, List.getElem?_cons_zero, List.getElem?_cons_succ, bind_ok]
  rw [evs_cons, ev_bi, evs_cons, lcI, bind_ok, evs_nil, bind_ok, bind_ok, bi_tuple_lst (ds := (inL ni bits).map Ng.prD) (by simp), bind_ok, evs_cons, ev_var]
  simp only [varR, List.getElem?_cons_zero, List.getElem?_cons_succ, bind_ok, evs_nil]
  rw [tupR_ok _ (by simp [linesz_is]), of_ok, seq_ret, finO_ret]
  -- what is kept
  have hform : ∃ cs : List Cell, Y (T' ++ [.lst (po.map Ng.prD)]) Q.length (outsP K3 po) ++ [.lst ((inL ni bits).map Ng.prD)] = S ++ cs ∧ cs[z1.length + l.length]? = some (.dct (outsP K3 po)) := by
    have hQS : Q = S ++ (z1 ++ l) := by rw [hQ, hR0, List.append_assoc]
    have hTS : T' = S ++ (z1 ++ l ++ ([.dct [], .lst [.bl false], .lst (bg1.map D.bl), .lst [.tup [wD (List.replicate L (-1)), wD (List.replicate U 1)]], .lst ((linesL ts L U).map termD)] : List Cell)) := by
      rw [hT', hT, setk, hQS]
      simp
    have hQl : Q.length = S.length + (z1.length + l.length) := by rw [hQS]; simp
    unfold Y
    rw [hTS, hQl]
    refine ⟨((z1 ++ l ++ ([.dct [], .lst [.bl false], .lst (bg1.map D.bl), .lst [.tup [wD (List.replicate L (-1)), wD (List.replicate U 1)]], .lst ((linesL ts L U).map termD)] : List Cell)) ++ [Cell.lst (po.map Ng.prD)]).set (z1.length + l.length) (.dct (outsP K3 po)) ++ [Cell.lst ((inL ni bits).map Ng.prD)], ?_, ?_⟩
    · rw [List.append_assoc S, setk, List.append_assoc S]
    · rw [List.getElem?_append_left (by simp), List.getElem?_set_self (by simp)]
  obtain ⟨cs, hcs, hci⟩ := hform
  have hQl : Q.length = S.length + (z1.length + l.length) := by rw [hQ, hR0]; simp [Nat.add_assoc]
  rw [hcs, hQl]
  have hfin := fin_tupd (S := S) (cs := cs) (xs := [.tup ((inL ni bits).map Ng.prD), .tup (po.map Ng.prD)]) hci (by rw [← hlay]; exact l4.refs) (by simp [prs_refs])
  rw [hfin]
  rw [← hL, hpo, hlay]
end
end Lw

set_option Elab.async false
set_option linter.all false
set_option maxRecDepth 100000
set_option maxHeartbeats 400000
namespace Lw
open PySem L2 Ng
section
theorem depDs_mem : ∀ {xs : List D} {x : D}, x ∈ xs → depD x ≤ depDs xs
  | y :: ys, x, hx => by
    simp only [depDs]
    rcases List.mem_cons.mp hx with rfl | hx
    · omega
    · have := depDs_mem hx; omega
theorem sDs_mem : ∀ {ds : List D} {d : D}, sDs ds = true → d ∈ ds → sD d = true
  | x :: xs, d, h, hd => by
    simp only [sDs, Bool.and_eq_true] at h
    rcases List.mem_cons.mp hd with rfl | hd
    · exact h.1
    · exact sDs_mem h.2 hd
theorem same_s : ∀ (n : Nat) (d : D), sD d = true → depD d ≤ n → ∀ (k : Nat) (S : Store), callN Fs (k + n + 1) i_law_same [d, d] S = .ok (.bl true) S := by
  intro n
  induction n with
  | zero =>
    intro d h hd k S
    rw [cl_law_same]
    cases d <;> simp [sD, depD] at h hd
    · simp [c_law_same, varR]
    · simp [c_law_same, varR]
  | succ n ih =>
    intro d h hd k S
    rw [cl_law_same]
    cases d with
    | int i => simp [c_law_same, varR]
    | str i => simp [c_law_same, varR]
    | tup ds =>
      have hds : sDs ds = true ∧ ds.length ≤ 100000 := by simpa [sD] using h
      have hlen := hds.2
      obtain ⟨ρ1, S1, e1, ⟨o, rfl⟩, rfl⟩ := for_inv (ck := ckS none) (f := fun x ρ S => (asgO (.var 2) x ρ S).seq (run (callN Fs (k + (n + 1))) b_law_same_1)) (ds := rngD 0 ds.length) (ρ := [some (.tup ds), some (.tup ds), none]) (S := S)
        (fun j ρ' S' => (∃ o, ρ' = [some (.tup ds), some (.tup ds), o]) ∧ S' = S) ⟨⟨none, rfl⟩, rfl⟩ (fun _ _ _ _ => rfl) (fun j x ρ' S' hj ⟨⟨o, e1⟩, e2⟩ => by
          subst e1 e2
          obtain ⟨hj2, rfl⟩ := rng_at0 hj
          have hmem : ds[j] ∈ ds := List.getElem_mem hj2
          have hat : ∀ S, atR ds (j : Int) S = .ok ds[j] S := fun S => atR_nat (List.getElem?_eq_getElem hj2)
          have hdj : depD ds[j] ≤ n := by have := depDs_mem hmem; simp only [depD] at hd; omega
          have e := fun S => ih ds[j] (sDs_mem hds.1 hmem) hdj k S
          generalize ds[j] = y at *
          exact ⟨[some (.tup ds), some (.tup ds), some (.int j)], S', by simp [b_law_same_1, varR, hat, show k + (n + 1) = k + n + 1 from rfl, e], ⟨_, rfl⟩, rfl⟩)
      have hlen2 : -4611686018427387904 ≤ (ds.length : Int) ∧ (ds.length : Int) < 4611686018427387904 := by omega
      unfold c_law_same
      rw [run_seq, run_ite, show tst (callN Fs (k + (n + 1))) (.isi (.var 1) [.tuple] false) [some (.tup ds), some (.tup ds), none] S1 = .ok true S1 from by simp [varR], of_ok, cond_true, run_seq, run_ite,
        show tst (callN Fs (k + (n + 1))) (.or (.not (.isi (.var 0) [.tuple] false)) (.cmp .ne (.bi .len (.cons (.var 0) .nil)) (.bi .len (.cons (.var 1) .nil)))) [some (.tup ds), some (.tup ds), none] S1 = .ok false S1 from by simp [varR], of_ok, cond_false, run_skip, seq_nx, run_seq, run_for,
        show itr (callN Fs (k + (n + 1))) (.rng (.cons (.bi .len (.cons (.var 1) .nil)) .nil)) [some (.tup ds), some (.tup ds), none] S1 = .ok ⟨rngD 0 ds.length, none⟩ S1 from by simp [varR, hlen2], of_ok]
      simp only
      rw [e1]
      simp
    | _ => simp [sD] at h
end
end Lw

set_option Elab.async false
set_option linter.all false
set_option maxRecDepth 100000
set_option maxHeartbeats 1000000
namespace Lw
open PySem L2 Ng
theorem fin_drawn {S : Store} {p : Nat} {c0 : Cell} {ds : List D} {a b c : Int} (h : D.refsL ds = []) (hc0 : c0.refs = []) :
    fin S (.tup [.int a, .int b, .int c, .ref S.length]) (S.set p c0 ++ [.lst ds]) = .ok (.tup [.int a, .int b, .int c, .ref S.length]) (S.set p c0 ++ [.lst ds]) := by
  have hl : (S.set p c0).length = S.length := by simp
  have g0 : (S.set p c0 ++ [Cell.lst ds])[S.length]? = some (.lst ds) := by rw [← hl, get0]; rfl
  have hr : reach (S.set p c0 ++ [Cell.lst ds]) S.length 100000 (D.refs (.tup [.int a, .int b, .int c, .ref S.length])) [] = [S.length] := by
    rw [show D.refs (.tup [.int a, .int b, .int c, .ref S.length]) = [S.length] from rfl, show (100000 : Nat) = 99999 + 1 from rfl, reach_step g0 (by omega) (by simp)]
    rw [show (Cell.lst ds).refs ++ [] = [] from by simp [Cell.refs, h], reach_nil]; rfl
  rw [fin_genC (L := [S.length]) (chg_set _ hc0) (S.set p c0) (fun f => keepE_set _ hc0) hr ?_]
  · have e2 : renOf S.length [S.length] S.length = S.length := by simp [renOf]
    simp only [List.filterMap_cons, g0, Option.map_some, List.filterMap_nil, D.ren, D.renL, Cell.ren, e2]
    rw [D.renL_id ds fun n hn => by rw [h] at hn; cases hn]
  · unfold keepC
    simp only [List.flatMap_cons, List.flatMap_nil, g0, Cell.refs, h, D.refs, D.refsL]
    simp
section
variable {k : Nat} {S : Store}
theorem drawn_ok {n p : Nat} {ns : List Int} (h : PL S n p ns) : ∃ (st : Int) (ni no : Nat) (rows : List (Int × List Int)) (S1 : Store), Mv p S S1 ∧ MOk st ni no rows ∧
    callN Fs (k + 4) i_law_drawn [.ref n, .ref p] S = .ok (.tup [.int st, .int ni, .int no, .ref S.length]) (S1 ++ [.lst (rows.map rowD)]) := by
  rw [cl_law_drawn]
  obtain ⟨x1, S1, a1, b1, m1, e1⟩ := take_ok (k := k + 2) h
  obtain ⟨x2, S2, a2, b2, m2, e2⟩ := take_ok (k := k + 2) (h.mv m1)
  have m12 := m1.trans m2
  obtain ⟨x3, S3, a3, b3, m3, e3⟩ := take_ok (k := k + 2) (h.mv m12)
  have m13 := m12.trans m3
  have eni : x2 % 4 = ((x2 % 4).toNat : Int) := (Int.toNat_of_nonneg (by omega)).symm
  have eno : 1 + x3 % 3 = ((1 + x3 % 3).toNat : Int) := (Int.toNat_of_nonneg (by omega)).symm
  have hst : 1 ≤ 1 + x1 % 8 ∧ 1 + x1 % 8 ≤ 8 := by omega
  have hni : (x2 % 4).toNat ≤ 3 := by omega
  have hno : 1 ≤ (1 + x3 % 3).toNat ∧ (1 + x3 % 3).toNat ≤ 3 := by omega
  generalize hstv : 1 + x1 % 8 = st at *
  generalize hniv : (x2 % 4).toNat = ni at *
  generalize hnov : (1 + x3 % 3).toNat = no at *
  obtain ⟨rows, S4, m4, hlen, hok, e4⟩ := rows_ok (k := k + 1) (h.mv m13) hst hni hno
  refine ⟨st, ni, no, rows, S4, m13.trans m4, ⟨hst, hni, hno, hlen, hok⟩, ?_⟩
  have l3 : S3.length = S.length := m13.len
  rw [l3] at e4
  have key : run (callN Fs (k + 3)) c_law_drawn [some (.ref n), some (.ref p), none, none, none] S = .ret (.tup [.int st, .int ni, .int no, .ref S.length]) (S4 ++ [.lst (rows.map rowD)]) := by
    unfold c_law_drawn
    refine sx (h := by simp [varR, e1, hstv]; exact ⟨rfl, rfl⟩) ?_
    refine sx (h := by simp [varR, e2, eni]; exact ⟨rfl, rfl⟩) ?_
    refine sx (h := by simp [varR, e3, eno]; exact ⟨rfl, rfl⟩) ?_
    exact sxr (h := by simp [varR, e4, linesz_is])
  rw [key, finO_ret]
  obtain ⟨i, _, rfl⟩ := m13.trans m4
  exact fin_drawn (refs_rows rows) (by simp [Cell.refs])
theorem prs_of : ∀ {ks : List (List Int)}, (∀ x ∈ ks, ∃ i j, x = [i, j]) → ∃ ps, prsK ks = some ps ∧ ∀ p ∈ ps, [p.1, p.2] ∈ ks
  | [], _ => ⟨[], rfl, fun _ h => nomatch h⟩
  | x :: ks, h => by
    obtain ⟨i, j, rfl⟩ := h _ List.mem_cons_self
    obtain ⟨ps, h1, h2⟩ := prs_of fun y hy => h y (List.mem_cons_of_mem _ hy)
    refine ⟨(i, j) :: ps, by simp [prsK, h1], fun p hp => ?_⟩
    rcases List.mem_cons.mp hp with rfl | hp
    · exact List.mem_cons_self
    · exact List.mem_cons_of_mem _ (h2 p hp)
theorem sD_prs (ps : List (Int × Int)) : sDs (ps.map Ng.prD) = true := by
  induction ps with
  | nil => rfl
  | cons p ps ih => simp [sDs, sD, ih]
theorem dep_prs (ps : List (Int × Int)) : depDs (ps.map Ng.prD) ≤ 1 := by
  induction ps with
  | nil => simp [depDs]
  | cons p ps ih => simp [depDs, depD]; omega
theorem fld_lo {m q : Nat} {I O : List (Int × Int)} (h : S[m]? = some (.ins "Layout" (loF I O q))) :
    fldR "Layout" "pattern" (.ref m) S = .ok (.ref q) S ∧ fldR "Layout" "ins" (.ref m) S = .ok (.tup (I.map Ng.prD)) S ∧ fldR "Layout" "outs" (.ref m) S = .ok (.tup (O.map Ng.prD)) S :=
  ⟨fldR_ins h (by simp [loF, List.lookup]), fldR_ins h (by simp [loF, List.lookup]), fldR_ins h (by simp [loF, List.lookup])⟩
theorem body_ok {q0 q1 q2 q5 q7 q8 : Option D} {a3 a4 g m q : Nat} {ds3 ds4 : List D} {j : Int} {st : Int} {ni no : Nat} {rows : List (Int × List Int)} (M : MOk st ni no rows) (h3 : S[a3]? = some (.lst ds3)) (h4 : S[a4]? = some (.lst ds4))
    (t3 : ∀ S, atR ds3 j S = .ok (.tup [.int st, .int ni, .int no, .ref g]) S) (t4 : ∀ S, atR ds4 j S = .ok (.ref m) S) (hg : S[g]? = some (.lst (rows.map rowD))) (hm : S[m]? = some (.ins "Layout" (loF (layI st ni) (layO rows st ni no) q))) (hq : S[q]? = some (.dct (layL rows st ni no))) :
    ∃ e7 e8 l, run (callN Fs (k + 29)) b_law_2 [q0, q1, q2, some (.ref a3), some (.ref a4), q5, some (.int j), q7, q8] S = .nx [q0, q1, q2, some (.ref a3), some (.ref a4), q5, some (.int j), e7, e8] (S ++ l) := by
  obtain ⟨hts, hlen, hs1, hb3⟩ := ts_ok M
  obtain ⟨-, -, -, hlim⟩ := layP_lim hts hlen M.hni M.hno.2 hb3
  have lL : callN Fs (k + 29) i_law_layout [.ref g, .int st, .int ni, .int no] S = _ := llay_ok (k := k + 26) M hg
  have lI : (layI st ni).length ≤ 100 := by have := M.hni; simp [layI, inL]; omega
  have lO : (layO rows st ni no).length ≤ 100 := by have := M.hno; simp [layO, outL]; omega
  generalize hIv : layI st ni = I at *
  generalize hOv : layO rows st ni no = O at *
  generalize hKv : layL rows st ni no = kv at *
  replace hlim : Lim 10000 kv := by rw [← hKv]; exact hlim
  have sI : ∀ S, callN Fs (k + 29) i_law_same [.tup (I.map Ng.prD), .tup (I.map Ng.prD)] S = .ok (.bl true) S := fun S => same_s 3 (.tup (I.map Ng.prD)) (by simp [sD, sD_prs]; omega) (by have := dep_prs I; simp [depD]; omega) (k + 25) S
  have sO : ∀ S, callN Fs (k + 29) i_law_same [.tup (O.map Ng.prD), .tup (O.map Ng.prD)] S = .ok (.bl true) S := fun S => same_s 3 (.tup (O.map Ng.prD)) (by simp [sD, sD_prs]; omega) (by have := dep_prs O; simp [depD]; omega) (k + 25) S
  have f' : ∀ l, _ := fun l => fld_lo (get_lo (l := l) hm)
  have f1 := fun l => (f' l).1
  generalize I.map Ng.prD = DI at *
  generalize O.map Ng.prD = DO at *
  have okv : ∀ p ∈ kv, okV p.2 := fun p hp => by have := (hlim.val p hp).1; exact ⟨this.1, Nat.le_trans this.2 (by decide)⟩
  have h3' : ∀ l, (S ++ l)[a3]? = some (.lst ds3) := fun l => get_lo h3
  have h4' : ∀ l, (S ++ l)[a4]? = some (.lst ds4) := fun l => get_lo h4
  have hq' : ∀ l, (S ++ l)[q]? = some (.dct kv) := fun l => get_lo hq
  have ht : (S ++ [Cell.dct kv])[S.length]? = some (.dct kv) := by simp
  have heq : eqD (S ++ [.dct kv]) (.ref q) (.ref S.length) = some true := eq_same (hq' _) ht okv okv hlim.nod hlim.nod fun _ => rfl
  have hi : isiR [.dict] (.ref q) (S ++ [.dct kv]) = .ok (.bl true) (S ++ [.dct kv]) := by simp [isiR, isTys, isTy, hq']
  obtain ⟨ps, hps, hmem⟩ := prs_of (ks := kv.map (·.1)) fun x hx => by
    obtain ⟨p, hp, rfl⟩ := List.mem_map.mp hx
    exact hlim.pr p hp
  have hsort := sorted_dct ht hps
  have sv : ∀ x ∈ (srtP ps).map Ng.prD, ∃ i j d, x = .tup [.int i, .int j] ∧ dGet kv [i, j] = some d ∧ ∀ S, callN Fs (k + 29) i_law_same [d, d] S = .ok (.bl true) S := fun x hx => by
    obtain ⟨p, hp, rfl⟩ := List.mem_map.mp hx
    have hk := hmem p (by simpa [srtP] using hp)
    cases hg : dGet kv [p.1, p.2] with
    | none => exact absurd hk (dGet_none.mp hg)
    | some d =>
      obtain ⟨o1, -, o3⟩ := hlim.val _ (mem_of_dGet hg)
      exact ⟨_, _, d, rfl, hg, fun S => same_s 10 d o3 o1.2 (k + 18) S⟩
  have cne := cT_neD heq
  generalize hL : (srtP ps).map Ng.prD = L at *
  have gq : (S ++ [Cell.dct kv, .lst L])[q]? = some (.dct kv) := hq' _
  have gt : (S ++ [Cell.dct kv, .lst L])[S.length]? = some (.dct kv) := by simp
  have gs : (S ++ [Cell.dct kv, .lst L])[S.length + 1]? = some (.lst L) := by simp
  have g4 := h4' [Cell.dct kv, .lst L]
  have f2 := f' [Cell.dct kv, .lst L]
  have f1' := f1 [Cell.dct kv]
  have g41 := h4' [Cell.dct kv]
  have hsort' : biD .sorted [.ref S.length] (S ++ [.dct kv]) = .ok (.ref (S.length + 1)) (S ++ [.dct kv, .lst L]) := by rw [hsort]; simp
  generalize hV : S ++ [Cell.dct kv, .lst L] = V at *
  obtain ⟨ρ1, S1, e1, ⟨o, rfl⟩, rfl⟩ := for_inv (ck := ckS (some (S.length + 1, .lst L))) (f := fun x ρ S => (asgO (.var 8) x ρ S).seq (run (callN Fs (k + 29)) b_law_1)) (ds := L) (ρ := [q0, q1, q2, some (.ref a3), some (.ref a4), q5, some (.int j), some (.tup [.ref S.length, .tup DI, .tup DO]), q8]) (S := V)
    (fun _ ρ' S' => (∃ o, ρ' = [q0, q1, q2, some (.ref a3), some (.ref a4), q5, some (.int j), some (.tup [.ref S.length, .tup DI, .tup DO]), o]) ∧ S' = V) ⟨⟨_, rfl⟩, rfl⟩ (fun _ _ _ ⟨_, h⟩ => by subst h; simp [gs]) (fun i x ρ' S' hj ⟨⟨o, e1⟩, e2⟩ => by
      subst e1 e2
      obtain ⟨i, j', d, rfl, hd, hs⟩ := sv x (List.mem_of_getElem? hj)
      refine ⟨_, _, ?_, ⟨some (.tup [.int i, .int j']), rfl⟩, rfl⟩
      have x1 := ix_dct gq (key_xy i j') hd
      have x2 := ix_dct gt (key_xy i j') hd
      simp [b_law_1, varR, g4, t4, f2.1, x1, x2, hs])
  refine ⟨some (.tup [.ref S.length, .tup DI, .tup DO]), o, [.dct kv, .lst L], ?_⟩
  unfold b_law_2
  refine sx (h := by simp [varR, h3, t3, lL]; exact ⟨rfl, rfl⟩) ?_
  refine sx (h := by simp [varR, g41, t4, f1', hi, cne]; exact ⟨rfl, rfl⟩) ?_
  refine sxF (w := ⟨L, some (S.length + 1, .lst L)⟩) (hi := by simp [varR, hsort', gs]) e1 ?_
  rw [hV]
  exact sx (h := by simp [varR, g4, t4, f2.2.1, f2.2.2, sI, sO]) rfl
end
theorem lcL2 {ck : Store → Bool} {f : D → Store → R (Option D)} {S : Store} {x1 x2 d1 d2 : D} {l1 l2 : List Cell} (h1 : f x1 (S ++ [.lst []]) = .ok (some d1) (S ++ .lst [] :: l1)) (h2 : f x2 (S ++ .lst [d1] :: l1) = .ok (some d2) (S ++ .lst [d1] :: (l1 ++ l2))) (hck : ∀ l, ck (S ++ l) = true) :
    lcL S.length ck f [x1, x2] (S ++ [.lst []]) = .ok () (S ++ .lst [d1, d2] :: (l1 ++ l2)) := by
  simp [lcL, hck, h1, h2, linesz_is]
section
variable {k : Nat}
abbrev eltM : E := .call i_lay_out (.cons (.call i_Machine_new (.cons (.ix (.var 5) (.int 0)) (.cons (.ix (.var 5) (.int 1)) (.cons (.ix (.var 5) (.int 2)) (.cons (.bi .list (.cons (.ix (.var 5) (.int 3)) .nil)) .nil))))) .nil)
theorem el_ok {T : Store} {g : Nat} {st : Int} {ni no : Nat} {rows : List (Int × List Int)} (M : MOk st ni no rows) (hg : T[g]? = some (.lst (rows.map rowD))) {q0 q1 q2 q3 q4 q6 q7 q8 : Option D} :
    lcF [5] (.var 5) (tst (callN Fs (k + 29)) (.bl true)) (ev (callN Fs (k + 29)) eltM) [q0, q1, q2, q3, q4, none, q6, q7, q8] (.tup [.int st, .int ni, .int no, .ref g]) T =
      .ok (some (.ref (T.length + 3))) (T ++ [.lst (rows.map rowD), .ins "Machine" (mF st ni no (T.length + 2)), .lst (rows.map rowD), .ins "Layout" (loF (layI st ni) (layO rows st ni no) (T.length + 4)), .dct (layL rows st ni no)]) := by
  have b1 := bi_list_lst hg
  have g1 : (T ++ [Cell.lst (rows.map rowD)])[T.length]? = some (.lst (rows.map rowD)) := by simp
  have n1 : callN Fs (k + 29) i_Machine_new [.int st, .int ni, .int no, .ref T.length] (T ++ [Cell.lst (rows.map rowD)]) = .ok (.ref (T.length + 1)) (T ++ [.lst (rows.map rowD), .ins "Machine" (mF st ni no (T.length + 2)), .lst (rows.map rowD)]) := by
    rw [new_ok (k := k + 25) M g1]; simp
  have mA : MachAt (T ++ [.lst (rows.map rowD), .ins "Machine" (mF st ni no (T.length + 2)), .lst (rows.map rowD)]) (T.length + 1) st ni no rows := ⟨_, by simp; rfl, by simp⟩
  have n2 : callN Fs (k + 29) i_lay_out [.ref (T.length + 1)] (T ++ [.lst (rows.map rowD), .ins "Machine" (mF st ni no (T.length + 2)), .lst (rows.map rowD)]) = .ok (.ref (T.length + 3)) (T ++ [.lst (rows.map rowD), .ins "Machine" (mF st ni no (T.length + 2)), .lst (rows.map rowD), .ins "Layout" (loF (layI st ni) (layO rows st ni no) (T.length + 4)), .dct (layL rows st ni no)]) := by
    rw [lay_ok (k := k + 24) M mA]; simp
  generalize layI st ni = I at *
  generalize layO rows st ni no = O at *
  generalize layL rows st ni no = kv at *
  generalize rows.map rowD = R at *
  simp [lcF, asgT, wipeE, eltM, varR, b1, n1, n2]
end
theorem law_true (ns : List Int) (hns : ns.length ≤ 63) : ∃ S', callN (Ts.map (·.fn)) 30 i_law [.ref 0] [.ro (ns.map D.int)] = .ok (.bl true) S' := by
  show ∃ S', callN Fs 30 i_law [.ref 0] [.ro (ns.map D.int)] = .ok (.bl true) S'
  rw [cl_law]
  generalize hS0 : ([.ro (ns.map D.int)] : Store) = S0
  have g0 : S0[0]? = some (.ro (ns.map D.int)) := by rw [← hS0]; rfl
  obtain ⟨nums, hn, e1⟩ := numbers_ok (k := 28) g0 hns 130 (by decide)
  have pA : PL (S0 ++ [nl nums, .lst [.int 0]]) S0.length (S0.length + 1) nums := ⟨by simp, ⟨0, by omega, by simp⟩, by omega, hn⟩
  generalize hA : S0 ++ [nl nums, .lst [.int 0]] = A at *
  have lA : A.length = S0.length + 2 := by rw [← hA]; simp
  obtain ⟨st1, ni1, no1, rows1, S1, m1, M1, e2⟩ := drawn_ok (k := 25) pA
  have l1 : S1.length = S0.length + 2 := by rw [m1.len, lA]
  have pB := (pA.mv m1).app [.lst (rows1.map rowD)]
  generalize hB : S1 ++ [Cell.lst (rows1.map rowD)] = B at *
  have lB : B.length = S0.length + 3 := by rw [← hB]; simp [l1]
  obtain ⟨st2, ni2, no2, rows2, S2, m2, M2, e3⟩ := drawn_ok (k := 25) pB
  have l2 : S2.length = S0.length + 3 := by rw [m2.len, lB]
  have gB : B[S0.length + 2]? = some (.lst (rows1.map rowD)) := by rw [← hB, ← l1]; simp
  have gB2 : S2[S0.length + 2]? = some (.lst (rows1.map rowD)) := m2.get gB (by omega)
  rw [lA] at e2
  rw [lB] at e3
  obtain ⟨D1, hD1⟩ : ∃ d : D, d = .tup [.int st1, .int ni1, .int no1, .ref (S0.length + 2)] := ⟨_, rfl⟩
  obtain ⟨D2, hD2⟩ : ∃ d : D, d = .tup [.int st2, .int ni2, .int no2, .ref (S0.length + 3)] := ⟨_, rfl⟩
  rw [← hD1] at e2
  rw [← hD2] at e3
  obtain ⟨T, hT⟩ : ∃ T, T = S2 ++ [Cell.lst (rows2.map rowD), .lst [D1, D2]] := ⟨_, rfl⟩
  have lT : T.length = S0.length + 5 := by rw [hT]; simp [l2]
  have gT3 : T[S0.length + 4]? = some (.lst [D1, D2]) := by rw [hT, show S0.length + 4 = S2.length + 1 by omega]; simp
  have gT1 : T[S0.length + 2]? = some (.lst (rows1.map rowD)) := by rw [hT]; exact get_lo gB2
  have gT2 : T[S0.length + 3]? = some (.lst (rows2.map rowD)) := by rw [hT, show S0.length + 3 = S2.length by omega]; simp
  have key : ∃ S', run (callN Fs 29) c_law [some (.ref 0), none, none, none, none, none, none, none, none] S0 = .ret (.bl true) S' := by
    have f1 := el_ok (k := 0) (T := T ++ [.lst []]) M1 (get_lo gT1) (q0 := some (.ref 0)) (q1 := some (.ref S0.length)) (q2 := some (.ref (S0.length + 1))) (q3 := some (.ref (S0.length + 4))) (q4 := none) (q6 := none) (q7 := none) (q8 := none)
    obtain ⟨c1, hc1⟩ : ∃ l : List Cell, l = [.lst (rows1.map rowD), .ins "Machine" (mF st1 ni1 no1 ((T ++ [Cell.lst []]).length + 2)), .lst (rows1.map rowD), .ins "Layout" (loF (layI st1 ni1) (layO rows1 st1 ni1 no1) ((T ++ [Cell.lst []]).length + 4)), .dct (layL rows1 st1 ni1 no1)] := ⟨_, rfl⟩
    rw [← hc1] at f1
    have lc1 : c1.length = 5 := by rw [hc1]; rfl
    have f2 := el_ok (k := 0) (T := T ++ .lst [.ref ((T ++ [Cell.lst []]).length + 3)] :: c1) M2 (get_lo gT2) (q0 := some (.ref 0)) (q1 := some (.ref S0.length)) (q2 := some (.ref (S0.length + 1))) (q3 := some (.ref (S0.length + 4))) (q4 := none) (q6 := none) (q7 := none) (q8 := none)
    obtain ⟨c2, hc2⟩ : ∃ l : List Cell, l = [.lst (rows2.map rowD), .ins "Machine" (mF st2 ni2 no2 ((T ++ .lst [.ref ((T ++ [Cell.lst []]).length + 3)] :: c1).length + 2)), .lst (rows2.map rowD), .ins "Layout" (loF (layI st2 ni2) (layO rows2 st2 ni2 no2) ((T ++ .lst [.ref ((T ++ [Cell.lst []]).length + 3)] :: c1).length + 4)), .dct (layL rows2 st2 ni2 no2)] := ⟨_, rfl⟩
    rw [← hc2] at f2
    rw [← hD1] at f1
    rw [← hD2] at f2
    have x1 : (T ++ [Cell.lst []]).length + 3 = T.length + 4 := by simp
    have x2 : (T ++ .lst [.ref ((T ++ [Cell.lst []]).length + 3)] :: c1).length + 3 = T.length + 9 := by simp [lc1]
    rw [x2] at f2
    rw [x1] at f1 f2
    have x3 : (T ++ [Cell.lst []]).length = T.length + 1 := by simp
    have x4 : (T ++ .lst [.ref ((T ++ [Cell.lst []]).length + 3)] :: c1).length = T.length + 6 := by simp [lc1]
    rw [x3] at hc1
    rw [x4] at hc2
    have hck : ∀ l, ckS (some (S0.length + 4, .lst [D1, D2])) (T ++ l) = true := fun l => by simp [get_lo gT3]
    simp only [Nat.zero_add] at f1 f2
    obtain ⟨fE, hfE⟩ : ∃ f, f = lcF [5] (E.var 5) (tst (callN Fs 29) (E.bl true)) (ev (callN Fs 29) eltM) [some (D.ref 0), some (D.ref S0.length), some (D.ref (S0.length + 1)), some (D.ref (S0.length + 4)), none, none, none, none, none] := ⟨_, rfl⟩
    rw [← hfE] at f1 f2
    have hL := lcL2 (f := fE) (ck := ckS (some (S0.length + 4, .lst [D1, D2]))) (S := T) (x1 := D1) (x2 := D2) (d1 := .ref (T.length + 4)) (d2 := .ref (T.length + 9)) (l1 := c1) (l2 := c2) (by rw [f1]; simp) (by rw [f2]; simp) hck
    obtain ⟨V, hV⟩ : ∃ V, V = T ++ Cell.lst [.ref (T.length + 4), .ref (T.length + 9)] :: (c1 ++ c2) := ⟨_, rfl⟩
    rw [← hV] at hL
    have v3 : V[S0.length + 4]? = some (.lst [D1, D2]) := by rw [hV]; exact get_lo gT3
    have v4 : V[T.length]? = some (.lst [.ref (T.length + 4), .ref (T.length + 9)]) := by rw [hV]; simp
    have vg1 : V[S0.length + 2]? = some (.lst (rows1.map rowD)) := by rw [hV]; exact get_lo gT1
    have vg2 : V[S0.length + 3]? = some (.lst (rows2.map rowD)) := by rw [hV]; exact get_lo gT2
    have vm1 : V[T.length + 4]? = some (.ins "Layout" (loF (layI st1 ni1) (layO rows1 st1 ni1 no1) (T.length + 1 + 4))) := by rw [hV, getk, hc1]; rfl
    have vq1 : V[T.length + 1 + 4]? = some (.dct (layL rows1 st1 ni1 no1)) := by rw [hV, show T.length + 1 + 4 = T.length + 5 by omega, getk, hc1]; rfl
    have vm2 : V[T.length + 9]? = some (.ins "Layout" (loF (layI st2 ni2) (layO rows2 st2 ni2 no2) (T.length + 6 + 4))) := by rw [hV, getk, hc1, hc2]; rfl
    have vq2 : V[T.length + 6 + 4]? = some (.dct (layL rows2 st2 ni2 no2)) := by rw [hV, show T.length + 6 + 4 = T.length + 10 by omega, getk, hc1, hc2]; rfl
    obtain ⟨ρ1, SV, e9, e6, e7, e8, l, rfl, rfl⟩ := for_inv (ck := ckS none) (f := fun x ρ S => (asgO (.var 6) x ρ S).seq (run (callN Fs 29) b_law_2)) (ds := rngD 0 2) (ρ := [some (.ref 0), some (.ref S0.length), some (.ref (S0.length + 1)), some (.ref (S0.length + 4)), some (.ref T.length), none, none, none, none]) (S := V)
      (fun j ρ' S' => ∃ e6 e7 e8 l, ρ' = [some (.ref 0), some (.ref S0.length), some (.ref (S0.length + 1)), some (.ref (S0.length + 4)), some (.ref T.length), none, e6, e7, e8] ∧ S' = V ++ l) ⟨none, none, none, [], rfl, by simp⟩ (fun _ _ _ _ => rfl) (fun j x ρ' S' hj ⟨e6, e7, e8, l, h1, h2⟩ => by
        subst h1 h2
        obtain ⟨hj2, rfl⟩ := rng_at0 hj
        have hj3 : j = 0 ∨ j = 1 := by omega
        rcases hj3 with rfl | rfl
        · obtain ⟨a7, a8, l', e⟩ := body_ok (k := 0) (S := V ++ l) (q0 := some (.ref 0)) (q1 := some (.ref S0.length)) (q2 := some (.ref (S0.length + 1))) (q5 := none) (q7 := e7) (q8 := e8) (j := 0) M1 (get_lo v3) (get_lo v4) (fun S => by rw [hD1]; simp) (fun S => by simp) (get_lo vg1) (get_lo vm1) (get_lo vq1)
          exact ⟨_, _, by simpa using e, _, a7, a8, l ++ l', rfl, by simp⟩
        · obtain ⟨a7, a8, l', e⟩ := body_ok (k := 0) (S := V ++ l) (q0 := some (.ref 0)) (q1 := some (.ref S0.length)) (q2 := some (.ref (S0.length + 1))) (q5 := none) (q7 := e7) (q8 := e8) (j := 1) M2 (get_lo v3) (get_lo v4) (fun S => by rw [hD2]; simp) (fun S => by simp) (get_lo vg2) (get_lo vm2) (get_lo vq2)
          exact ⟨_, _, by simpa using e, _, a7, a8, l ++ l', rfl, by simp⟩)
    have g1 : callN Fs 29 i_law_drawn [.ref S0.length, .ref (S0.length + 1)] A = _ := e2
    have g2 : callN Fs 29 i_law_drawn [.ref S0.length, .ref (S0.length + 1)] B = _ := e3
    have hT' : S2 ++ [Cell.lst (rows2.map rowD), .lst [D1, D2]] = T := hT.symm
    have lE : ev (callN Fs 29) (.lc [5] (.var 5) (.var 3) (.bl true) eltM) [some (.ref 0), some (.ref S0.length), some (.ref (S0.length + 1)), some (.ref (S0.length + 4)), none, none, none, none, none] T = .ok (.ref T.length) V := by
      rw [ev_lc, show itr (callN Fs 29) (.var 3) [some (.ref 0), some (.ref S0.length), some (.ref (S0.length + 1)), some (.ref (S0.length + 4)), none, none, none, none, none] T = .ok ⟨[D1, D2], some (S0.length + 4, .lst [D1, D2])⟩ T from by simp [varR, gT3], bind_ok]
      unfold lcR
      simp only
      rw [← hfE, hL, bind_ok]
    have n1 : callN Fs 29 i_law_numbers [.ref 0, .int 130] S0 = _ := e1
    have w1 : (S1 ++ [Cell.lst (rows1.map rowD)]) = B := hB
    have ll : (S2 ++ [Cell.lst (rows2.map rowD)]).length = S0.length + 4 := by simp [l2]
    generalize rows1.map rowD = R1 at *
    generalize rows2.map rowD = R2 at *
    unfold c_law
    refine sxE (h := by simp [varR, n1]; exact ⟨rfl, rfl⟩) ?_
    refine sxE (h := by simp [linesz_is]; exact ⟨rfl, rfl⟩) ?_
    rw [show S0 ++ [nl nums, .lst [.int 0]] = A from hA]
    refine sxE (ρ1 := [some (.ref 0), some (.ref S0.length), some (.ref (S0.length + 1)), some (.ref (S0.length + 4)), none, none, none, none, none]) (S1 := T) (h := by simp [varR, g1, g2, linesz_is, ll, hT']) ?_
    refine sxE (h := by rw [run_asg, lE, of_ok, asgO_var]) ?_
    refine sxFE (w := ⟨rngD 0 2, none⟩) (hi := by simp [rngR1]) e9 ?_
    exact sxrE (h := by simp; exact rfl)
  obtain ⟨S', hk⟩ := key
  obtain ⟨S2, h⟩ := fin_any (S := S0) (d := .bl true) rfl S'
  exact ⟨S2, by rw [hk, finO_ret, h]⟩
end Lw

set_option Elab.async false
set_option linter.all false
set_option maxRecDepth 100000
set_option maxHeartbeats 8000000
namespace Lw
open PySem L2 Ng

set_option maxRecDepth 100000 in
theorem texts_ok : (Ts.all (textC (Ts.map (·.k)) glbs blts exs isa atrs)) = true := by decide +kernel
theorem facts {w : World} {K : PySem.W.Frag} {h : Heap} {mg : Str → Option Value} (X : K.In h) (G : h.Ns mainGlobals mg)
    {OMachine : Addr} (o0Machine : PySem.W.nsIn K mainGlobals "Machine" = some (some (.ref OMachine)))
    (opgMachine : PySem.W.plainGet K OMachine Str.empty = true)
    (ohdMachine : PySem.W.hasDictIn K OMachine = true)
    (opoMachine : PySem.W.plainOver K OMachine = true)
    (osaMachine : PySem.W.findIn K (.ref OMachine) "__setattr__" = some (some (.builtin "object.__setattr__")))
    (omkMachine : PySem.W.makesIn K OMachine = true)
    (okcMachine : PySem.W.keepIn K (.ref OMachine) = true)
    {OLayout : Addr} (o0Layout : PySem.W.nsIn K mainGlobals "Layout" = some (some (.ref OLayout)))
    (opgLayout : PySem.W.plainGet K OLayout Str.empty = true)
    (ohdLayout : PySem.W.hasDictIn K OLayout = true)
    (opoLayout : PySem.W.plainOver K OLayout = true)
    (osaLayout : PySem.W.findIn K (.ref OLayout) "__setattr__" = some (some (.builtin "object.__setattr__")))
    (omkLayout : PySem.W.makesIn K OLayout = true)
    (okcLayout : PySem.W.keepIn K (.ref OLayout) = true)
    (onMachine_rows : PySem.W.findIn K (.ref OMachine) "_rows" = some none)
    (onMachineinputs : PySem.W.findIn K (.ref OMachine) "inputs" = some none)
    (onLayoutins : PySem.W.findIn K (.ref OLayout) "ins" = some none)
    (onMachineoutputs : PySem.W.findIn K (.ref OMachine) "outputs" = some none)
    (onLayoutouts : PySem.W.findIn K (.ref OLayout) "outs" = some none)
    (onLayoutpattern : PySem.W.findIn K (.ref OLayout) "pattern" = some none)
    (onMachinestates : PySem.W.findIn K (.ref OMachine) "states" = some none)
    {f0 : Addr} (a0 : PySem.W.nsIn K mainGlobals "_is_integer" = some (some (.ref f0))) {od0 an0 : Option Addr} {sl0 : Array (Option Value)} {oc0 kV0 dc0 pm0 cd0 ct0 : Value} (l0 : K.lookup f0 = some ⟨oc0, od0, .func (PySem.W.fnOf "_is_integer" "_is_integer" (defArgs t_is_integer.st) (defBody t_is_integer.st) (defScope t_is_integer.st) .none kV0 dc0 pm0 an0 cd0 ct0), sl0⟩) (c0 : PySem.W.codeIn K cd0 "_is_integer" = true) (k0 : PySem.W.keepIn K (.ref f0) = true)
    {f1 : Addr} (a1 : PySem.W.nsIn K mainGlobals "is_word" = some (some (.ref f1))) {od1 an1 : Option Addr} {sl1 : Array (Option Value)} {oc1 kV1 dc1 pm1 cd1 ct1 : Value} (l1 : K.lookup f1 = some ⟨oc1, od1, .func (PySem.W.fnOf "is_word" "is_word" (defArgs t_is_word.st) (defBody t_is_word.st) (defScope t_is_word.st) .none kV1 dc1 pm1 an1 cd1 ct1), sl1⟩) (c1 : PySem.W.codeIn K cd1 "is_word" = true) (k1 : PySem.W.keepIn K (.ref f1) = true)
    {f2 : Addr} (a2 : PySem.W.nsIn K mainGlobals "number_of" = some (some (.ref f2))) {od2 an2 : Option Addr} {sl2 : Array (Option Value)} {oc2 kV2 dc2 pm2 cd2 ct2 : Value} (l2 : K.lookup f2 = some ⟨oc2, od2, .func (PySem.W.fnOf "number_of" "number_of" (defArgs t_number_of.st) (defBody t_number_of.st) (defScope t_number_of.st) .none kV2 dc2 pm2 an2 cd2 ct2), sl2⟩) (c2 : PySem.W.codeIn K cd2 "number_of" = true) (k2 : PySem.W.keepIn K (.ref f2) = true)
    {f3 : Addr} (a3 : PySem.W.nsIn K mainGlobals "word_of" = some (some (.ref f3))) {od3 an3 : Option Addr} {sl3 : Array (Option Value)} {oc3 kV3 dc3 pm3 cd3 ct3 : Value} (l3 : K.lookup f3 = some ⟨oc3, od3, .func (PySem.W.fnOf "word_of" "word_of" (defArgs t_word_of.st) (defBody t_word_of.st) (defScope t_word_of.st) .none kV3 dc3 pm3 an3 cd3 ct3), sl3⟩) (c3 : PySem.W.codeIn K cd3 "word_of" = true) (k3 : PySem.W.keepIn K (.ref f3) = true)
    {f4 : Addr} (a4 : PySem.W.nsIn K mainGlobals "words" = some (some (.ref f4))) {od4 an4 : Option Addr} {sl4 : Array (Option Value)} {oc4 kV4 dc4 pm4 cd4 ct4 : Value} (l4 : K.lookup f4 = some ⟨oc4, od4, .func (PySem.W.fnOf "words" "words" (defArgs t_words.st) (defBody t_words.st) (defScope t_words.st) .none kV4 dc4 pm4 an4 cd4 ct4), sl4⟩) (c4 : PySem.W.codeIn K cd4 "words" = true) (k4 : PySem.W.keepIn K (.ref f4) = true)
    {f5 : Addr} (a5 : PySem.W.nsIn K mainGlobals "state_bits" = some (some (.ref f5))) {od5 an5 : Option Addr} {sl5 : Array (Option Value)} {oc5 kV5 dc5 pm5 cd5 ct5 : Value} (l5 : K.lookup f5 = some ⟨oc5, od5, .func (PySem.W.fnOf "state_bits" "state_bits" (defArgs t_state_bits.st) (defBody t_state_bits.st) (defScope t_state_bits.st) .none kV5 dc5 pm5 an5 cd5 ct5), sl5⟩) (c5 : PySem.W.codeIn K cd5 "state_bits" = true) (k5 : PySem.W.keepIn K (.ref f5) = true)
    {f6 : Addr} (a6 : PySem.W.nsIn K mainGlobals "plane" = some (some (.ref f6))) {od6 an6 : Option Addr} {sl6 : Array (Option Value)} {oc6 kV6 dc6 pm6 cd6 ct6 : Value} (l6 : K.lookup f6 = some ⟨oc6, od6, .func (PySem.W.fnOf "plane" "plane" (defArgs t_plane.st) (defBody t_plane.st) (defScope t_plane.st) .none kV6 dc6 pm6 an6 cd6 ct6), sl6⟩) (c6 : PySem.W.codeIn K cd6 "plane" = true) (k6 : PySem.W.keepIn K (.ref f6) = true)
    {f7 : Addr} (a7 : PySem.W.nsIn K mainGlobals "wire" = some (some (.ref f7))) {od7 an7 : Option Addr} {sl7 : Array (Option Value)} {oc7 kV7 dc7 pm7 cd7 ct7 : Value} (l7 : K.lookup f7 = some ⟨oc7, od7, .func (PySem.W.fnOf "wire" "wire" (defArgs t_wire.st) (defBody t_wire.st) (defScope t_wire.st) .none kV7 dc7 pm7 an7 cd7 ct7), sl7⟩) (c7 : PySem.W.codeIn K cd7 "wire" = true) (k7 : PySem.W.keepIn K (.ref f7) = true)
    {f8 : Addr} (a8 : PySem.W.nsIn K mainGlobals "_literal" = some (some (.ref f8))) {od8 an8 : Option Addr} {sl8 : Array (Option Value)} {oc8 kV8 dc8 pm8 cd8 ct8 : Value} (l8 : K.lookup f8 = some ⟨oc8, od8, .func (PySem.W.fnOf "_literal" "_literal" (defArgs t_literal.st) (defBody t_literal.st) (defScope t_literal.st) .none kV8 dc8 pm8 an8 cd8 ct8), sl8⟩) (c8 : PySem.W.codeIn K cd8 "_literal" = true) (k8 : PySem.W.keepIn K (.ref f8) = true)
    {f9 : Addr} (a9 : PySem.W.nsIn K mainGlobals "_zero_literal" = some (some (.ref f9))) {od9 an9 : Option Addr} {sl9 : Array (Option Value)} {oc9 kV9 dc9 pm9 cd9 ct9 : Value} (l9 : K.lookup f9 = some ⟨oc9, od9, .func (PySem.W.fnOf "_zero_literal" "_zero_literal" (defArgs t_zero_literal.st) (defBody t_zero_literal.st) (defScope t_zero_literal.st) .none kV9 dc9 pm9 an9 cd9 ct9), sl9⟩) (c9 : PySem.W.codeIn K cd9 "_zero_literal" = true) (k9 : PySem.W.keepIn K (.ref f9) = true)
    {f10 : Addr} (a10 : PySem.W.nsIn K mainGlobals "_sum" = some (some (.ref f10))) {od10 an10 : Option Addr} {sl10 : Array (Option Value)} {oc10 kV10 dc10 pm10 cd10 ct10 : Value} (l10 : K.lookup f10 = some ⟨oc10, od10, .func (PySem.W.fnOf "_sum" "_sum" (defArgs t_sum.st) (defBody t_sum.st) (defScope t_sum.st) .none kV10 dc10 pm10 an10 cd10 ct10), sl10⟩) (c10 : PySem.W.codeIn K cd10 "_sum" = true) (k10 : PySem.W.keepIn K (.ref f10) = true)
    {f11 : Addr} (a11 : PySem.W.nsIn K mainGlobals "_put_field" = some (some (.ref f11))) {od11 an11 : Option Addr} {sl11 : Array (Option Value)} {oc11 kV11 dc11 pm11 cd11 ct11 : Value} (l11 : K.lookup f11 = some ⟨oc11, od11, .func (PySem.W.fnOf "_put_field" "_put_field" (defArgs t_put_field.st) (defBody t_put_field.st) (defScope t_put_field.st) .none kV11 dc11 pm11 an11 cd11 ct11), sl11⟩) (c11 : PySem.W.codeIn K cd11 "_put_field" = true) (k11 : PySem.W.keepIn K (.ref f11) = true)
    {f12 : Addr} (a12 : PySem.W.nsIn K mainGlobals "_put_rows" = some (some (.ref f12))) {od12 an12 : Option Addr} {sl12 : Array (Option Value)} {oc12 kV12 dc12 pm12 cd12 ct12 : Value} (l12 : K.lookup f12 = some ⟨oc12, od12, .func (PySem.W.fnOf "_put_rows" "_put_rows" (defArgs t_put_rows.st) (defBody t_put_rows.st) (defScope t_put_rows.st) .none kV12 dc12 pm12 an12 cd12 ct12), sl12⟩) (c12 : PySem.W.codeIn K cd12 "_put_rows" = true) (k12 : PySem.W.keepIn K (.ref f12) = true)
    {f13 : Addr} (a13 : PySem.W.nsIn K mainGlobals "_put_line" = some (some (.ref f13))) {od13 an13 : Option Addr} {sl13 : Array (Option Value)} {oc13 kV13 dc13 pm13 cd13 ct13 : Value} (l13 : K.lookup f13 = some ⟨oc13, od13, .func (PySem.W.fnOf "_put_line" "_put_line" (defArgs t_put_line.st) (defBody t_put_line.st) (defScope t_put_line.st) .none kV13 dc13 pm13 an13 cd13 ct13), sl13⟩) (c13 : PySem.W.codeIn K cd13 "_put_line" = true) (k13 : PySem.W.keepIn K (.ref f13) = true)
    {f14 : Addr} (a14 : PySem.W.nsIn K mainGlobals "_put_state" = some (some (.ref f14))) {od14 an14 : Option Addr} {sl14 : Array (Option Value)} {oc14 kV14 dc14 pm14 cd14 ct14 : Value} (l14 : K.lookup f14 = some ⟨oc14, od14, .func (PySem.W.fnOf "_put_state" "_put_state" (defArgs t_put_state.st) (defBody t_put_state.st) (defScope t_put_state.st) .none kV14 dc14 pm14 an14 cd14 ct14), sl14⟩) (c14 : PySem.W.codeIn K cd14 "_put_state" = true) (k14 : PySem.W.keepIn K (.ref f14) = true)
    {f15 : Addr} (a15 : PySem.W.nsIn K mainGlobals "lay_out" = some (some (.ref f15))) {od15 an15 : Option Addr} {sl15 : Array (Option Value)} {oc15 kV15 dc15 pm15 cd15 ct15 : Value} (l15 : K.lookup f15 = some ⟨oc15, od15, .func (PySem.W.fnOf "lay_out" "lay_out" (defArgs t_lay_out.st) (defBody t_lay_out.st) (defScope t_lay_out.st) .none kV15 dc15 pm15 an15 cd15 ct15), sl15⟩) (c15 : PySem.W.codeIn K cd15 "lay_out" = true) (k15 : PySem.W.keepIn K (.ref f15) = true)
    {f16 : Addr} (a16 : PySem.W.nsIn K mainGlobals "_law_numbers" = some (some (.ref f16))) {od16 an16 : Option Addr} {sl16 : Array (Option Value)} {oc16 kV16 dc16 pm16 cd16 ct16 : Value} (l16 : K.lookup f16 = some ⟨oc16, od16, .func (PySem.W.fnOf "_law_numbers" "_law_numbers" (defArgs t_law_numbers.st) (defBody t_law_numbers.st) (defScope t_law_numbers.st) .none kV16 dc16 pm16 an16 cd16 ct16), sl16⟩) (c16 : PySem.W.codeIn K cd16 "_law_numbers" = true) (k16 : PySem.W.keepIn K (.ref f16) = true)
    {f17 : Addr} (a17 : PySem.W.nsIn K mainGlobals "_law_take" = some (some (.ref f17))) {od17 an17 : Option Addr} {sl17 : Array (Option Value)} {oc17 kV17 dc17 pm17 cd17 ct17 : Value} (l17 : K.lookup f17 = some ⟨oc17, od17, .func (PySem.W.fnOf "_law_take" "_law_take" (defArgs t_law_take.st) (defBody t_law_take.st) (defScope t_law_take.st) .none kV17 dc17 pm17 an17 cd17 ct17), sl17⟩) (c17 : PySem.W.codeIn K cd17 "_law_take" = true) (k17 : PySem.W.keepIn K (.ref f17) = true)
    {f18 : Addr} (a18 : PySem.W.nsIn K mainGlobals "_law_words" = some (some (.ref f18))) {od18 an18 : Option Addr} {sl18 : Array (Option Value)} {oc18 kV18 dc18 pm18 cd18 ct18 : Value} (l18 : K.lookup f18 = some ⟨oc18, od18, .func (PySem.W.fnOf "_law_words" "_law_words" (defArgs t_law_words.st) (defBody t_law_words.st) (defScope t_law_words.st) .none kV18 dc18 pm18 an18 cd18 ct18), sl18⟩) (c18 : PySem.W.codeIn K cd18 "_law_words" = true) (k18 : PySem.W.keepIn K (.ref f18) = true)
    {f19 : Addr} (a19 : PySem.W.nsIn K mainGlobals "_law_word" = some (some (.ref f19))) {od19 an19 : Option Addr} {sl19 : Array (Option Value)} {oc19 kV19 dc19 pm19 cd19 ct19 : Value} (l19 : K.lookup f19 = some ⟨oc19, od19, .func (PySem.W.fnOf "_law_word" "_law_word" (defArgs t_law_word.st) (defBody t_law_word.st) (defScope t_law_word.st) .none kV19 dc19 pm19 an19 cd19 ct19), sl19⟩) (c19 : PySem.W.codeIn K cd19 "_law_word" = true) (k19 : PySem.W.keepIn K (.ref f19) = true)
    {f20 : Addr} (a20 : PySem.W.nsIn K mainGlobals "_law_rows" = some (some (.ref f20))) {od20 an20 : Option Addr} {sl20 : Array (Option Value)} {oc20 kV20 dc20 pm20 cd20 ct20 : Value} (l20 : K.lookup f20 = some ⟨oc20, od20, .func (PySem.W.fnOf "_law_rows" "_law_rows" (defArgs t_law_rows.st) (defBody t_law_rows.st) (defScope t_law_rows.st) .none kV20 dc20 pm20 an20 cd20 ct20), sl20⟩) (c20 : PySem.W.codeIn K cd20 "_law_rows" = true) (k20 : PySem.W.keepIn K (.ref f20) = true)
    {f21 : Addr} (a21 : PySem.W.nsIn K mainGlobals "_law_field" = some (some (.ref f21))) {od21 an21 : Option Addr} {sl21 : Array (Option Value)} {oc21 kV21 dc21 pm21 cd21 ct21 : Value} (l21 : K.lookup f21 = some ⟨oc21, od21, .func (PySem.W.fnOf "_law_field" "_law_field" (defArgs t_law_field.st) (defBody t_law_field.st) (defScope t_law_field.st) .none kV21 dc21 pm21 an21 cd21 ct21), sl21⟩) (c21 : PySem.W.codeIn K cd21 "_law_field" = true) (k21 : PySem.W.keepIn K (.ref f21) = true)
    {f22 : Addr} (a22 : PySem.W.nsIn K mainGlobals "_law_terms" = some (some (.ref f22))) {od22 an22 : Option Addr} {sl22 : Array (Option Value)} {oc22 kV22 dc22 pm22 cd22 ct22 : Value} (l22 : K.lookup f22 = some ⟨oc22, od22, .func (PySem.W.fnOf "_law_terms" "_law_terms" (defArgs t_law_terms.st) (defBody t_law_terms.st) (defScope t_law_terms.st) .none kV22 dc22 pm22 an22 cd22 ct22), sl22⟩) (c22 : PySem.W.codeIn K cd22 "_law_terms" = true) (k22 : PySem.W.keepIn K (.ref f22) = true)
    {f23 : Addr} (a23 : PySem.W.nsIn K mainGlobals "_law_line" = some (some (.ref f23))) {od23 an23 : Option Addr} {sl23 : Array (Option Value)} {oc23 kV23 dc23 pm23 cd23 ct23 : Value} (l23 : K.lookup f23 = some ⟨oc23, od23, .func (PySem.W.fnOf "_law_line" "_law_line" (defArgs t_law_line.st) (defBody t_law_line.st) (defScope t_law_line.st) .none kV23 dc23 pm23 an23 cd23 ct23), sl23⟩) (c23 : PySem.W.codeIn K cd23 "_law_line" = true) (k23 : PySem.W.keepIn K (.ref f23) = true)
    {f24 : Addr} (a24 : PySem.W.nsIn K mainGlobals "_law_sum" = some (some (.ref f24))) {od24 an24 : Option Addr} {sl24 : Array (Option Value)} {oc24 kV24 dc24 pm24 cd24 ct24 : Value} (l24 : K.lookup f24 = some ⟨oc24, od24, .func (PySem.W.fnOf "_law_sum" "_law_sum" (defArgs t_law_sum.st) (defBody t_law_sum.st) (defScope t_law_sum.st) .none kV24 dc24 pm24 an24 cd24 ct24), sl24⟩) (c24 : PySem.W.codeIn K cd24 "_law_sum" = true) (k24 : PySem.W.keepIn K (.ref f24) = true)
    {f25 : Addr} (a25 : PySem.W.nsIn K mainGlobals "_law_literal" = some (some (.ref f25))) {od25 an25 : Option Addr} {sl25 : Array (Option Value)} {oc25 kV25 dc25 pm25 cd25 ct25 : Value} (l25 : K.lookup f25 = some ⟨oc25, od25, .func (PySem.W.fnOf "_law_literal" "_law_literal" (defArgs t_law_literal.st) (defBody t_law_literal.st) (defScope t_law_literal.st) .none kV25 dc25 pm25 an25 cd25 ct25), sl25⟩) (c25 : PySem.W.codeIn K cd25 "_law_literal" = true) (k25 : PySem.W.keepIn K (.ref f25) = true)
    {f26 : Addr} (a26 : PySem.W.nsIn K mainGlobals "_law_layout" = some (some (.ref f26))) {od26 an26 : Option Addr} {sl26 : Array (Option Value)} {oc26 kV26 dc26 pm26 cd26 ct26 : Value} (l26 : K.lookup f26 = some ⟨oc26, od26, .func (PySem.W.fnOf "_law_layout" "_law_layout" (defArgs t_law_layout.st) (defBody t_law_layout.st) (defScope t_law_layout.st) .none kV26 dc26 pm26 an26 cd26 ct26), sl26⟩) (c26 : PySem.W.codeIn K cd26 "_law_layout" = true) (k26 : PySem.W.keepIn K (.ref f26) = true)
    {f27 : Addr} (a27 : PySem.W.nsIn K mainGlobals "_law_same" = some (some (.ref f27))) {od27 an27 : Option Addr} {sl27 : Array (Option Value)} {oc27 kV27 dc27 pm27 cd27 ct27 : Value} (l27 : K.lookup f27 = some ⟨oc27, od27, .func (PySem.W.fnOf "_law_same" "_law_same" (defArgs t_law_same.st) (defBody t_law_same.st) (defScope t_law_same.st) .none kV27 dc27 pm27 an27 cd27 ct27), sl27⟩) (c27 : PySem.W.codeIn K cd27 "_law_same" = true) (k27 : PySem.W.keepIn K (.ref f27) = true)
    {f28 : Addr} (a28 : PySem.W.nsIn K mainGlobals "_law_drawn" = some (some (.ref f28))) {od28 an28 : Option Addr} {sl28 : Array (Option Value)} {oc28 kV28 dc28 pm28 cd28 ct28 : Value} (l28 : K.lookup f28 = some ⟨oc28, od28, .func (PySem.W.fnOf "_law_drawn" "_law_drawn" (defArgs t_law_drawn.st) (defBody t_law_drawn.st) (defScope t_law_drawn.st) .none kV28 dc28 pm28 an28 cd28 ct28), sl28⟩) (c28 : PySem.W.codeIn K cd28 "_law_drawn" = true) (k28 : PySem.W.keepIn K (.ref f28) = true)
    {f29 : Addr} (a29 : PySem.W.nsIn K mainGlobals "law" = some (some (.ref f29))) {od29 an29 : Option Addr} {sl29 : Array (Option Value)} {oc29 kV29 dc29 pm29 cd29 ct29 : Value} (l29 : K.lookup f29 = some ⟨oc29, od29, .func (PySem.W.fnOf "law" "law" (defArgs t_law.st) (defBody t_law.st) (defScope t_law.st) .none kV29 dc29 pm29 an29 cd29 ct29), sl29⟩) (c29 : PySem.W.codeIn K cd29 "law" = true) (k29 : PySem.W.keepIn K (.ref f29) = true)
    {f30 : Addr} (a30 : PySem.W.findIn K (.ref OMachine) "__init__" = some (some (.ref f30))) (i30 : PySem.W.isFn K (.ref f30) = true) {od30 an30 : Option Addr} {sl30 : Array (Option Value)} {oc30 kV30 dc30 pm30 cd30 ct30 : Value} (l30 : K.lookup f30 = some ⟨oc30, od30, .func (PySem.W.fnOf "__init__" "Machine.__init__" (defArgs t_Machine_init.st) (defBody t_Machine_init.st) (defScope t_Machine_init.st) .none kV30 dc30 pm30 an30 cd30 ct30), sl30⟩) (c30 : PySem.W.codeIn K cd30 "Machine.__init__" = true) (k30 : PySem.W.keepIn K (.ref f30) = true)
    {f31 : Addr} (a31 : PySem.W.findIn K (.ref OMachine) "row" = some (some (.ref f31))) (i31 : PySem.W.isFn K (.ref f31) = true) {od31 an31 : Option Addr} {sl31 : Array (Option Value)} {oc31 kV31 dc31 pm31 cd31 ct31 : Value} (l31 : K.lookup f31 = some ⟨oc31, od31, .func (PySem.W.fnOf "row" "Machine.row" (defArgs t_Machine_row.st) (defBody t_Machine_row.st) (defScope t_Machine_row.st) .none kV31 dc31 pm31 an31 cd31 ct31), sl31⟩) (c31 : PySem.W.codeIn K cd31 "Machine.row" = true) (k31 : PySem.W.keepIn K (.ref f31) = true)
    {f33 : Addr} (a33 : PySem.W.findIn K (.ref OLayout) "__init__" = some (some (.ref f33))) (i33 : PySem.W.isFn K (.ref f33) = true) {od33 an33 : Option Addr} {sl33 : Array (Option Value)} {oc33 kV33 dc33 pm33 cd33 ct33 : Value} (l33 : K.lookup f33 = some ⟨oc33, od33, .func (PySem.W.fnOf "__init__" "Layout.__init__" (defArgs t_Layout_init.st) (defBody t_Layout_init.st) (defScope t_Layout_init.st) .none kV33 dc33 pm33 an33 cd33 ct33), sl33⟩) (c33 : PySem.W.codeIn K cd33 "Layout.__init__" = true) (k33 : PySem.W.keepIn K (.ref f33) = true)
    (z0 : PySem.W.nsIn K mainGlobals "abs" = some none)
    (z1 : PySem.W.nsIn K mainGlobals "all" = some none)
    (z2 : PySem.W.nsIn K mainGlobals "bool" = some none)
    (z3 : PySem.W.nsIn K mainGlobals "dict" = some none)
    (z4 : PySem.W.nsIn K mainGlobals "enumerate" = some none)
    (z5 : PySem.W.nsIn K mainGlobals "int" = some none)
    (z6 : PySem.W.nsIn K mainGlobals "isinstance" = some none)
    (z7 : PySem.W.nsIn K mainGlobals "len" = some none)
    (z8 : PySem.W.nsIn K mainGlobals "list" = some none)
    (z9 : PySem.W.nsIn K mainGlobals "range" = some none)
    (z10 : PySem.W.nsIn K mainGlobals "sorted" = some none)
    (z11 : PySem.W.nsIn K mainGlobals "str" = some none)
    (z12 : PySem.W.nsIn K mainGlobals "tuple" = some none)
    {CBadMachine : Addr} (e0BadMachine : PySem.W.nsIn K mainGlobals "BadMachine" = some (some (.ref CBadMachine)))
    {CBadWord : Addr} (e0BadWord : PySem.W.nsIn K mainGlobals "BadWord" = some (some (.ref CBadWord)))
    (eqBadMachine : PySem.W.excIn K CBadMachine [.type "ValueError", .type "Exception", .type "BaseException", .type "object"] "ValueError.__new__" = true)
    (ekBadMachine : PySem.W.keepIn K (.ref CBadMachine) = true)
    (esBadMachine : PySem.W.subIn K (.ref CBadMachine) (.type "BaseException") = some true)
    (etBadMachine : PySem.W.typeIn K (.ref CBadMachine) = some (.type "type"))
    (eaBadMachine : PySem.W.findIn K (.ref CBadMachine) "__getattribute__" = some (some (.builtin "BaseException.__getattribute__")))
    (ebBadMachine : PySem.W.findIn K (.ref CBadMachine) "__getattr__" = some none)
    (edBadMachine : PySem.W.hasDictIn K CBadMachine = true)
    (efBadMachine : PySem.W.findIn K (.ref CBadMachine) "__class__" = some (some (.builtin "object.__class__")))
    (emBadMachine : PySem.W.mroIn K CBadMachine (.type "object") = some true)
    (eqBadWord : PySem.W.excIn K CBadWord [.type "ValueError", .type "Exception", .type "BaseException", .type "object"] "ValueError.__new__" = true)
    (ekBadWord : PySem.W.keepIn K (.ref CBadWord) = true)
    (esBadWord : PySem.W.subIn K (.ref CBadWord) (.type "BaseException") = some true)
    (etBadWord : PySem.W.typeIn K (.ref CBadWord) = some (.type "type"))
    (eaBadWord : PySem.W.findIn K (.ref CBadWord) "__getattribute__" = some (some (.builtin "BaseException.__getattribute__")))
    (ebBadWord : PySem.W.findIn K (.ref CBadWord) "__getattr__" = some none)
    (edBadWord : PySem.W.hasDictIn K CBadWord = true)
    (efBadWord : PySem.W.findIn K (.ref CBadWord) "__class__" = some (some (.builtin "object.__class__")))
    (emBadWord : PySem.W.mroIn K CBadWord (.type "object") = some true)
    (en0 : PySem.W.specialIn K (.builtin "object.__class__") "__get__" = some (some (.builtin "getset_descriptor.__get__"))) (en1 : PySem.W.takesIn K (.builtin "object.__class__") = some true)
    {ga0 : Addr} {gn0 : Nat} {gd0 : Option Addr} {gs0 : Array (Option Value)} {gt0_0 : Tok} {gt0_1 : Tok} {gt0_2 : Tok} {gt0_3 : Tok} {gt0_4 : Tok}  (g0 : PySem.W.nsIn K mainGlobals "AND" = some (some (.ref ga0))) (gl0 : K.lookup ga0 = some ⟨.type "tuple", gd0, .seq #[.str "and" gt0_0, .int 0 gt0_1, .int 0 gt0_2, .int 0 gt0_3, .int 0 gt0_4] gn0, gs0⟩)
    {ga1 : Addr} {gn1 : Nat} {gd1 : Option Addr} {gs1 : Array (Option Value)} {gt1_0 : Tok} {gt1_1 : Tok} {gt1_2 : Tok} {gt1_3 : Tok} {gt1_4 : Tok}  (g1 : PySem.W.nsIn K mainGlobals "CROSS" = some (some (.ref ga1))) (gl1 : K.lookup ga1 = some ⟨.type "tuple", gd1, .seq #[.str "cross" gt1_0, .int 0 gt1_1, .int 1 gt1_2, .int 0 gt1_3, .int 0 gt1_4] gn1, gs1⟩)
    {gt2 : Tok} (g2 : PySem.W.nsIn K mainGlobals "EAST" = some (some (.int 0 gt2)))
    {ga3 : Addr} {gn3 : Nat} {gd3 : Option Addr} {gs3 : Array (Option Value)} {gt3_0 : Tok} {gt3_1 : Tok} {gt3_2 : Tok} {gt3_3 : Tok} {gt3_4 : Tok}  (g3 : PySem.W.nsIn K mainGlobals "FORK_EAST" = some (some (.ref ga3))) (gl3 : K.lookup ga3 = some ⟨.type "tuple", gd3, .seq #[.str "fork" gt3_0, .int 0 gt3_1, .int 0 gt3_2, .int 0 gt3_3, .int 0 gt3_4] gn3, gs3⟩)
    {ga4 : Addr} {gn4 : Nat} {gd4 : Option Addr} {gs4 : Array (Option Value)} {gt4_0 : Tok} {gt4_1 : Tok} {gt4_2 : Tok} {gt4_3 : Tok} {gt4_4 : Tok}  (g4 : PySem.W.nsIn K mainGlobals "FORK_SOUTH" = some (some (.ref ga4))) (gl4 : K.lookup ga4 = some ⟨.type "tuple", gd4, .seq #[.str "fork" gt4_0, .int 3 gt4_1, .int 0 gt4_2, .int 0 gt4_3, .int 0 gt4_4] gn4, gs4⟩)
    {gt5 : Tok} (g5 : PySem.W.nsIn K mainGlobals "MOST_INPUTS" = some (some (.int 3 gt5)))
    {gt6 : Tok} (g6 : PySem.W.nsIn K mainGlobals "MOST_OUTPUTS" = some (some (.int 3 gt6)))
    {gt7 : Tok} (g7 : PySem.W.nsIn K mainGlobals "MOST_STATES" = some (some (.int 8 gt7)))
    {gt8 : Tok} (g8 : PySem.W.nsIn K mainGlobals "NORTH" = some (some (.int 1 gt8)))
    {ga9 : Addr} {gn9 : Nat} {gd9 : Option Addr} {gs9 : Array (Option Value)} {gt9_0 : Tok} {gt9_1 : Tok} {gt9_2 : Tok}  (g9 : PySem.W.nsIn K mainGlobals "NOT_SOUTH" = some (some (.ref ga9))) (gl9 : K.lookup ga9 = some ⟨.type "tuple", gd9, .seq #[.str "not" gt9_0, .int 3 gt9_1, .int 0 gt9_2] gn9, gs9⟩)
    {ga10 : Addr} {gn10 : Nat} {gd10 : Option Addr} {gs10 : Array (Option Value)} {gt10_0 : Tok} {gt10_1 : Tok} {gt10_2 : Tok} {gt10_3 : Tok} {gt10_4 : Tok}  (g10 : PySem.W.nsIn K mainGlobals "OR" = some (some (.ref ga10))) (gl10 : K.lookup ga10 = some ⟨.type "tuple", gd10, .seq #[.str "or" gt10_0, .int 3 gt10_1, .int 1 gt10_2, .int 0 gt10_3, .int 0 gt10_4] gn10, gs10⟩)
    {gt11 : Tok} (g11 : PySem.W.nsIn K mainGlobals "SOUTH" = some (some (.int 3 gt11)))
    {gt12 : Tok} (g12 : PySem.W.nsIn K mainGlobals "WEST" = some (some (.int 2 gt12)))
    {gt13 : Tok} (g13 : PySem.W.nsIn K mainGlobals "ZERO" = some (some (.int 8 gt13))) :
    Facts w K mg (gam K) Ts glbs blts exs isa atrs := by
  refine ⟨?_, ?_, ?_, ?_, ?_, ?_⟩
  · simp only [Ts, List.forall_mem_cons]
    refine ⟨?_, ?_, ?_, ?_, ?_, ?_, ?_, ?_, ?_, ?_, ?_, ?_, ?_, ?_, ?_, ?_, ?_, ?_, ?_, ?_, ?_, ?_, ?_, ?_, ?_, ?_, ?_, ?_, ?_, ?_, ?_, ?_, ?_, ?_, ?_, fun _ h => nomatch h⟩
    · exact FactT.of_fn (t := t_is_integer) (x := "_is_integer") rfl (fun_mk (st := t_is_integer.st) l0 c0 k0) (PySem.W.mg_of X G a0) k0 ((fun_mk (st := t_is_integer.st) l0 c0 k0).binds (ps := t_is_integer.ps) fun _ _ _ _ _ _ us hl => match us, hl with | [_, _, _], _ => rfl)
    · exact FactT.of_fn (t := t_is_word) (x := "is_word") rfl (fun_mk (st := t_is_word.st) l1 c1 k1) (PySem.W.mg_of X G a1) k1 ((fun_mk (st := t_is_word.st) l1 c1 k1).binds (ps := t_is_word.ps) fun _ _ _ _ _ _ us hl => match us, hl with | [_, _], _ => rfl)
    · exact FactT.of_fn (t := t_number_of) (x := "number_of") rfl (fun_mk (st := t_number_of.st) l2 c2 k2) (PySem.W.mg_of X G a2) k2 ((fun_mk (st := t_number_of.st) l2 c2 k2).binds (ps := t_number_of.ps) fun _ _ _ _ _ _ us hl => match us, hl with | [_], _ => rfl)
    · exact FactT.of_fn (t := t_word_of) (x := "word_of") rfl (fun_mk (st := t_word_of.st) l3 c3 k3) (PySem.W.mg_of X G a3) k3 ((fun_mk (st := t_word_of.st) l3 c3 k3).binds (ps := t_word_of.ps) fun _ _ _ _ _ _ us hl => match us, hl with | [_, _], _ => rfl)
    · exact FactT.of_fn (t := t_words) (x := "words") rfl (fun_mk (st := t_words.st) l4 c4 k4) (PySem.W.mg_of X G a4) k4 ((fun_mk (st := t_words.st) l4 c4 k4).binds (ps := t_words.ps) fun _ _ _ _ _ _ us hl => match us, hl with | [_], _ => rfl)
    · exact FactT.of_fn (t := t_state_bits) (x := "state_bits") rfl (fun_mk (st := t_state_bits.st) l5 c5 k5) (PySem.W.mg_of X G a5) k5 ((fun_mk (st := t_state_bits.st) l5 c5 k5).binds (ps := t_state_bits.ps) fun _ _ _ _ _ _ us hl => match us, hl with | [_], _ => rfl)
    · exact FactT.of_fn (t := t_plane) (x := "plane") rfl (fun_mk (st := t_plane.st) l6 c6 k6) (PySem.W.mg_of X G a6) k6 ((fun_mk (st := t_plane.st) l6 c6 k6).binds (ps := t_plane.ps) fun _ _ _ _ _ _ us hl => match us, hl with | [_], _ => rfl)
    · exact FactT.of_fn (t := t_wire) (x := "wire") rfl (fun_mk (st := t_wire.st) l7 c7 k7) (PySem.W.mg_of X G a7) k7 ((fun_mk (st := t_wire.st) l7 c7 k7).binds (ps := t_wire.ps) fun _ _ _ _ _ _ us hl => match us, hl with | [_], _ => rfl)
    · exact FactT.of_fn (t := t_literal) (x := "_literal") rfl (fun_mk (st := t_literal.st) l8 c8 k8) (PySem.W.mg_of X G a8) k8 ((fun_mk (st := t_literal.st) l8 c8 k8).binds (ps := t_literal.ps) fun _ _ _ _ _ _ us hl => match us, hl with | [_, _], _ => rfl)
    · exact FactT.of_fn (t := t_zero_literal) (x := "_zero_literal") rfl (fun_mk (st := t_zero_literal.st) l9 c9 k9) (PySem.W.mg_of X G a9) k9 ((fun_mk (st := t_zero_literal.st) l9 c9 k9).binds (ps := t_zero_literal.ps) fun _ _ _ _ _ _ us hl => match us, hl with | [_], _ => rfl)
    · exact FactT.of_fn (t := t_sum) (x := "_sum") rfl (fun_mk (st := t_sum.st) l10 c10 k10) (PySem.W.mg_of X G a10) k10 ((fun_mk (st := t_sum.st) l10 c10 k10).binds (ps := t_sum.ps) fun _ _ _ _ _ _ us hl => match us, hl with | [_, _, _], _ => rfl)
    · exact FactT.of_fn (t := t_put_field) (x := "_put_field") rfl (fun_mk (st := t_put_field.st) l11 c11 k11) (PySem.W.mg_of X G a11) k11 ((fun_mk (st := t_put_field.st) l11 c11 k11).binds (ps := t_put_field.ps) fun _ _ _ _ _ _ us hl => match us, hl with | [_, _, _, _], _ => rfl)
    · exact FactT.of_fn (t := t_put_rows) (x := "_put_rows") rfl (fun_mk (st := t_put_rows.st) l12 c12 k12) (PySem.W.mg_of X G a12) k12 ((fun_mk (st := t_put_rows.st) l12 c12 k12).binds (ps := t_put_rows.ps) fun _ _ _ _ _ _ us hl => match us, hl with | [_, _, _, _], _ => rfl)
    · exact FactT.of_fn (t := t_put_line) (x := "_put_line") rfl (fun_mk (st := t_put_line.st) l13 c13 k13) (PySem.W.mg_of X G a13) k13 ((fun_mk (st := t_put_line.st) l13 c13 k13).binds (ps := t_put_line.ps) fun _ _ _ _ _ _ us hl => match us, hl with | [_, _, _, _], _ => rfl)
    · exact FactT.of_fn (t := t_put_state) (x := "_put_state") rfl (fun_mk (st := t_put_state.st) l14 c14 k14) (PySem.W.mg_of X G a14) k14 ((fun_mk (st := t_put_state.st) l14 c14 k14).binds (ps := t_put_state.ps) fun _ _ _ _ _ _ us hl => match us, hl with | [_, _, _, _, _], _ => rfl)
    · exact FactT.of_fn (t := t_lay_out) (x := "lay_out") rfl (fun_mk (st := t_lay_out.st) l15 c15 k15) (PySem.W.mg_of X G a15) k15 ((fun_mk (st := t_lay_out.st) l15 c15 k15).binds (ps := t_lay_out.ps) fun _ _ _ _ _ _ us hl => match us, hl with | [_], _ => rfl)
    · exact FactT.of_fn (t := t_law_numbers) (x := "_law_numbers") rfl (fun_mk (st := t_law_numbers.st) l16 c16 k16) (PySem.W.mg_of X G a16) k16 ((fun_mk (st := t_law_numbers.st) l16 c16 k16).binds (ps := t_law_numbers.ps) fun _ _ _ _ _ _ us hl => match us, hl with | [_, _], _ => rfl)
    · exact FactT.of_fn (t := t_law_take) (x := "_law_take") rfl (fun_mk (st := t_law_take.st) l17 c17 k17) (PySem.W.mg_of X G a17) k17 ((fun_mk (st := t_law_take.st) l17 c17 k17).binds (ps := t_law_take.ps) fun _ _ _ _ _ _ us hl => match us, hl with | [_, _], _ => rfl)
    · exact FactT.of_fn (t := t_law_words) (x := "_law_words") rfl (fun_mk (st := t_law_words.st) l18 c18 k18) (PySem.W.mg_of X G a18) k18 ((fun_mk (st := t_law_words.st) l18 c18 k18).binds (ps := t_law_words.ps) fun _ _ _ _ _ _ us hl => match us, hl with | [_], _ => rfl)
    · exact FactT.of_fn (t := t_law_word) (x := "_law_word") rfl (fun_mk (st := t_law_word.st) l19 c19 k19) (PySem.W.mg_of X G a19) k19 ((fun_mk (st := t_law_word.st) l19 c19 k19).binds (ps := t_law_word.ps) fun _ _ _ _ _ _ us hl => match us, hl with | [_, _], _ => rfl)
    · exact FactT.of_fn (t := t_law_rows) (x := "_law_rows") rfl (fun_mk (st := t_law_rows.st) l20 c20 k20) (PySem.W.mg_of X G a20) k20 ((fun_mk (st := t_law_rows.st) l20 c20 k20).binds (ps := t_law_rows.ps) fun _ _ _ _ _ _ us hl => match us, hl with | [_, _, _, _, _], _ => rfl)
    · exact FactT.of_fn (t := t_law_field) (x := "_law_field") rfl (fun_mk (st := t_law_field.st) l21 c21 k21) (PySem.W.mg_of X G a21) k21 ((fun_mk (st := t_law_field.st) l21 c21 k21).binds (ps := t_law_field.ps) fun _ _ _ _ _ _ us hl => match us, hl with | [_, _, _, _], _ => rfl)
    · exact FactT.of_fn (t := t_law_terms) (x := "_law_terms") rfl (fun_mk (st := t_law_terms.st) l22 c22 k22) (PySem.W.mg_of X G a22) k22 ((fun_mk (st := t_law_terms.st) l22 c22 k22).binds (ps := t_law_terms.ps) fun _ _ _ _ _ _ us hl => match us, hl with | [_, _, _], _ => rfl)
    · exact FactT.of_fn (t := t_law_line) (x := "_law_line") rfl (fun_mk (st := t_law_line.st) l23 c23 k23) (PySem.W.mg_of X G a23) k23 ((fun_mk (st := t_law_line.st) l23 c23 k23).binds (ps := t_law_line.ps) fun _ _ _ _ _ _ us hl => match us, hl with | [_, _, _, _], _ => rfl)
    · exact FactT.of_fn (t := t_law_sum) (x := "_law_sum") rfl (fun_mk (st := t_law_sum.st) l24 c24 k24) (PySem.W.mg_of X G a24) k24 ((fun_mk (st := t_law_sum.st) l24 c24 k24).binds (ps := t_law_sum.ps) fun _ _ _ _ _ _ us hl => match us, hl with | [_, _, _], _ => rfl)
    · exact FactT.of_fn (t := t_law_literal) (x := "_law_literal") rfl (fun_mk (st := t_law_literal.st) l25 c25 k25) (PySem.W.mg_of X G a25) k25 ((fun_mk (st := t_law_literal.st) l25 c25 k25).binds (ps := t_law_literal.ps) fun _ _ _ _ _ _ us hl => match us, hl with | [_, _], _ => rfl)
    · exact FactT.of_fn (t := t_law_layout) (x := "_law_layout") rfl (fun_mk (st := t_law_layout.st) l26 c26 k26) (PySem.W.mg_of X G a26) k26 ((fun_mk (st := t_law_layout.st) l26 c26 k26).binds (ps := t_law_layout.ps) fun _ _ _ _ _ _ us hl => match us, hl with | [_, _, _, _], _ => rfl)
    · exact FactT.of_fn (t := t_law_same) (x := "_law_same") rfl (fun_mk (st := t_law_same.st) l27 c27 k27) (PySem.W.mg_of X G a27) k27 ((fun_mk (st := t_law_same.st) l27 c27 k27).binds (ps := t_law_same.ps) fun _ _ _ _ _ _ us hl => match us, hl with | [_, _], _ => rfl)
    · exact FactT.of_fn (t := t_law_drawn) (x := "_law_drawn") rfl (fun_mk (st := t_law_drawn.st) l28 c28 k28) (PySem.W.mg_of X G a28) k28 ((fun_mk (st := t_law_drawn.st) l28 c28 k28).binds (ps := t_law_drawn.ps) fun _ _ _ _ _ _ us hl => match us, hl with | [_, _], _ => rfl)
    · exact FactT.of_fn (t := t_law) (x := "law") rfl (fun_mk (st := t_law.st) l29 c29 k29) (PySem.W.mg_of X G a29) k29 ((fun_mk (st := t_law.st) l29 c29 k29).binds (ps := t_law.ps) fun _ _ _ _ _ _ us hl => match us, hl with | [_], _ => rfl)
    · exact FactT.of_me (t := t_Machine_init) (c := "Machine") (m := "__init__") rfl (fun_mk (st := t_Machine_init.st) l30 c30 k30) o0Machine ⟨opgMachine, ohdMachine, opoMachine, osaMachine⟩ ⟨a30, i30, k30⟩ ((fun_mk (st := t_Machine_init.st) l30 c30 k30).binds (ps := t_Machine_init.ps) fun _ _ _ _ _ _ us hl => match us, hl with | [_, _, _, _, _], _ => rfl)
    · exact FactT.of_me (t := t_Machine_row) (c := "Machine") (m := "row") rfl (fun_mk (st := t_Machine_row.st) l31 c31 k31) o0Machine ⟨opgMachine, ohdMachine, opoMachine, osaMachine⟩ ⟨a31, i31, k31⟩ ((fun_mk (st := t_Machine_row.st) l31 c31 k31).binds (ps := t_Machine_row.ps) fun _ _ _ _ _ _ us hl => match us, hl with | [_, _, _], _ => rfl)
    · exact FactT.of_mk (t := t_Machine_new) (c := "Machine") rfl o0Machine (PySem.W.mg_of X G o0Machine) ⟨omkMachine, a30, i30, okcMachine⟩
    · exact FactT.of_me (t := t_Layout_init) (c := "Layout") (m := "__init__") rfl (fun_mk (st := t_Layout_init.st) l33 c33 k33) o0Layout ⟨opgLayout, ohdLayout, opoLayout, osaLayout⟩ ⟨a33, i33, k33⟩ ((fun_mk (st := t_Layout_init.st) l33 c33 k33).binds (ps := t_Layout_init.ps) fun _ _ _ _ _ _ us hl => match us, hl with | [_, _, _, _], _ => rfl)
    · exact FactT.of_mk (t := t_Layout_new) (c := "Layout") rfl o0Layout (PySem.W.mg_of X G o0Layout) ⟨omkLayout, a33, i33, okcLayout⟩
  · simp only [glbs, List.forall_mem_cons]
    exact ⟨⟨_, .ref ga0, PySem.W.mg_of X G g0, rfl, fun _ _ => RepV.tup (vs := [V.str "and", V.int 0, V.int 0, V.int 0, V.int 0]) (.inr ⟨_, _, _, gl0, rfl, rfl, (by simp [PySem.sizeLine_eq]), .cons ⟨_, rfl⟩ (.cons ⟨_, rfl⟩ (.cons ⟨_, rfl⟩ (.cons ⟨_, rfl⟩ (.cons ⟨_, rfl⟩ .nil))))⟩) (.cons (.str _) (.cons (.int _) (.cons (.int _) (.cons (.int _) (.cons (.int _) (.nil))))))⟩, ⟨_, .ref ga1, PySem.W.mg_of X G g1, rfl, fun _ _ => RepV.tup (vs := [V.str "cross", V.int 0, V.int 1, V.int 0, V.int 0]) (.inr ⟨_, _, _, gl1, rfl, rfl, (by simp [PySem.sizeLine_eq]), .cons ⟨_, rfl⟩ (.cons ⟨_, rfl⟩ (.cons ⟨_, rfl⟩ (.cons ⟨_, rfl⟩ (.cons ⟨_, rfl⟩ .nil))))⟩) (.cons (.str _) (.cons (.int _) (.cons (.int _) (.cons (.int _) (.cons (.int _) (.nil))))))⟩, ⟨_, .int 0, PySem.W.mg_of X G g2, ⟨_, rfl⟩, fun _ _ => .int _⟩, ⟨_, .ref ga3, PySem.W.mg_of X G g3, rfl, fun _ _ => RepV.tup (vs := [V.str "fork", V.int 0, V.int 0, V.int 0, V.int 0]) (.inr ⟨_, _, _, gl3, rfl, rfl, (by simp [PySem.sizeLine_eq]), .cons ⟨_, rfl⟩ (.cons ⟨_, rfl⟩ (.cons ⟨_, rfl⟩ (.cons ⟨_, rfl⟩ (.cons ⟨_, rfl⟩ .nil))))⟩) (.cons (.str _) (.cons (.int _) (.cons (.int _) (.cons (.int _) (.cons (.int _) (.nil))))))⟩, ⟨_, .ref ga4, PySem.W.mg_of X G g4, rfl, fun _ _ => RepV.tup (vs := [V.str "fork", V.int 3, V.int 0, V.int 0, V.int 0]) (.inr ⟨_, _, _, gl4, rfl, rfl, (by simp [PySem.sizeLine_eq]), .cons ⟨_, rfl⟩ (.cons ⟨_, rfl⟩ (.cons ⟨_, rfl⟩ (.cons ⟨_, rfl⟩ (.cons ⟨_, rfl⟩ .nil))))⟩) (.cons (.str _) (.cons (.int _) (.cons (.int _) (.cons (.int _) (.cons (.int _) (.nil))))))⟩, ⟨_, .int 3, PySem.W.mg_of X G g5, ⟨_, rfl⟩, fun _ _ => .int _⟩, ⟨_, .int 3, PySem.W.mg_of X G g6, ⟨_, rfl⟩, fun _ _ => .int _⟩, ⟨_, .int 8, PySem.W.mg_of X G g7, ⟨_, rfl⟩, fun _ _ => .int _⟩, ⟨_, .int 1, PySem.W.mg_of X G g8, ⟨_, rfl⟩, fun _ _ => .int _⟩, ⟨_, .ref ga9, PySem.W.mg_of X G g9, rfl, fun _ _ => RepV.tup (vs := [V.str "not", V.int 3, V.int 0]) (.inr ⟨_, _, _, gl9, rfl, rfl, (by simp [PySem.sizeLine_eq]), .cons ⟨_, rfl⟩ (.cons ⟨_, rfl⟩ (.cons ⟨_, rfl⟩ .nil))⟩) (.cons (.str _) (.cons (.int _) (.cons (.int _) (.nil))))⟩, ⟨_, .ref ga10, PySem.W.mg_of X G g10, rfl, fun _ _ => RepV.tup (vs := [V.str "or", V.int 3, V.int 1, V.int 0, V.int 0]) (.inr ⟨_, _, _, gl10, rfl, rfl, (by simp [PySem.sizeLine_eq]), .cons ⟨_, rfl⟩ (.cons ⟨_, rfl⟩ (.cons ⟨_, rfl⟩ (.cons ⟨_, rfl⟩ (.cons ⟨_, rfl⟩ .nil))))⟩) (.cons (.str _) (.cons (.int _) (.cons (.int _) (.cons (.int _) (.cons (.int _) (.nil))))))⟩, ⟨_, .int 3, PySem.W.mg_of X G g11, ⟨_, rfl⟩, fun _ _ => .int _⟩, ⟨_, .int 2, PySem.W.mg_of X G g12, ⟨_, rfl⟩, fun _ _ => .int _⟩, ⟨_, .int 8, PySem.W.mg_of X G g13, ⟨_, rfl⟩, fun _ _ => .int _⟩, fun _ h => nomatch h⟩
  · simp only [blts, List.forall_mem_cons]
    exact ⟨PySem.W.mg_none_of X G z0, PySem.W.mg_none_of X G z1, PySem.W.mg_none_of X G z2, PySem.W.mg_none_of X G z3, PySem.W.mg_none_of X G z4, PySem.W.mg_none_of X G z5, PySem.W.mg_none_of X G z6, PySem.W.mg_none_of X G z7, PySem.W.mg_none_of X G z8, PySem.W.mg_none_of X G z9, PySem.W.mg_none_of X G z10, PySem.W.mg_none_of X G z11, PySem.W.mg_none_of X G z12, fun _ h => nomatch h⟩
  · intro c x h
    rcases c with _ | c
    · cases h; exact ⟨CBadMachine, [.type "ValueError", .type "Exception", .type "BaseException", .type "object"], "ValueError", "ValueError.__new__", "ValueError.__init__", by simp only [gam, gamX, exs, List.getElem?_cons_zero, List.getElem?_cons_succ, e0BadMachine], F.excBase_ValueError, eqBadMachine, PySem.W.mg_of X G e0BadMachine, ekBadMachine, esBadMachine, etBadMachine, ⟨eaBadMachine, ebBadMachine, esBadMachine, edBadMachine, efBadMachine, en0, en1, emBadMachine⟩⟩
    rcases c with _ | c
    · cases h; exact ⟨CBadWord, [.type "ValueError", .type "Exception", .type "BaseException", .type "object"], "ValueError", "ValueError.__new__", "ValueError.__init__", by simp only [gam, gamX, exs, List.getElem?_cons_zero, List.getElem?_cons_succ, e0BadWord], F.excBase_ValueError, eqBadWord, PySem.W.mg_of X G e0BadWord, ekBadWord, esBadWord, etBadWord, ⟨eaBadWord, ebBadWord, esBadWord, edBadWord, efBadWord, en0, en1, emBadWord⟩⟩
    cases h
  · simp only [isa, List.forall_mem_cons]
    exact fun _ h => nomatch h
  · simp only [atrs, List.forall_mem_cons]
    exact ⟨⟨_, o0Machine, ⟨opgMachine, ohdMachine, opoMachine, osaMachine⟩, onMachine_rows⟩, ⟨_, o0Machine, ⟨opgMachine, ohdMachine, opoMachine, osaMachine⟩, onMachineinputs⟩, ⟨_, o0Layout, ⟨opgLayout, ohdLayout, opoLayout, osaLayout⟩, onLayoutins⟩, ⟨_, o0Machine, ⟨opgMachine, ohdMachine, opoMachine, osaMachine⟩, onMachineoutputs⟩, ⟨_, o0Layout, ⟨opgLayout, ohdLayout, opoLayout, osaLayout⟩, onLayoutouts⟩, ⟨_, o0Layout, ⟨opgLayout, ohdLayout, opoLayout, osaLayout⟩, onLayoutpattern⟩, ⟨_, o0Machine, ⟨opgMachine, ohdMachine, opoMachine, osaMachine⟩, onMachinestates⟩, fun _ h => nomatch h⟩
theorem facts2 {w : World} {K : PySem.W.Frag} {h : Heap} {mg : Str → Option Value} {fa : Addr} (X : K.In h) (G : h.Ns mainGlobals mg) (hfa : mg "law" = some (.ref fa))
    {OMachine : Addr} (o0Machine : PySem.W.nsIn K mainGlobals "Machine" = some (some (.ref OMachine)))
    (opgMachine : PySem.W.plainGet K OMachine Str.empty = true)
    (ohdMachine : PySem.W.hasDictIn K OMachine = true)
    (opoMachine : PySem.W.plainOver K OMachine = true)
    (osaMachine : PySem.W.findIn K (.ref OMachine) "__setattr__" = some (some (.builtin "object.__setattr__")))
    (omkMachine : PySem.W.makesIn K OMachine = true)
    (okcMachine : PySem.W.keepIn K (.ref OMachine) = true)
    {OLayout : Addr} (o0Layout : PySem.W.nsIn K mainGlobals "Layout" = some (some (.ref OLayout)))
    (opgLayout : PySem.W.plainGet K OLayout Str.empty = true)
    (ohdLayout : PySem.W.hasDictIn K OLayout = true)
    (opoLayout : PySem.W.plainOver K OLayout = true)
    (osaLayout : PySem.W.findIn K (.ref OLayout) "__setattr__" = some (some (.builtin "object.__setattr__")))
    (omkLayout : PySem.W.makesIn K OLayout = true)
    (okcLayout : PySem.W.keepIn K (.ref OLayout) = true)
    (onMachine_rows : PySem.W.findIn K (.ref OMachine) "_rows" = some none)
    (onMachineinputs : PySem.W.findIn K (.ref OMachine) "inputs" = some none)
    (onLayoutins : PySem.W.findIn K (.ref OLayout) "ins" = some none)
    (onMachineoutputs : PySem.W.findIn K (.ref OMachine) "outputs" = some none)
    (onLayoutouts : PySem.W.findIn K (.ref OLayout) "outs" = some none)
    (onLayoutpattern : PySem.W.findIn K (.ref OLayout) "pattern" = some none)
    (onMachinestates : PySem.W.findIn K (.ref OMachine) "states" = some none)
    {f0 : Addr} (a0 : PySem.W.nsIn K mainGlobals "_is_integer" = some (some (.ref f0))) {od0 an0 : Option Addr} {sl0 : Array (Option Value)} {oc0 kV0 dc0 pm0 cd0 ct0 : Value} (l0 : K.lookup f0 = some ⟨oc0, od0, .func (PySem.W.fnOf "_is_integer" "_is_integer" (defArgs t_is_integer.st) (defBody t_is_integer.st) (defScope t_is_integer.st) .none kV0 dc0 pm0 an0 cd0 ct0), sl0⟩) (c0 : PySem.W.codeIn K cd0 "_is_integer" = true) (k0 : PySem.W.keepIn K (.ref f0) = true)
    {f1 : Addr} (a1 : PySem.W.nsIn K mainGlobals "is_word" = some (some (.ref f1))) {od1 an1 : Option Addr} {sl1 : Array (Option Value)} {oc1 kV1 dc1 pm1 cd1 ct1 : Value} (l1 : K.lookup f1 = some ⟨oc1, od1, .func (PySem.W.fnOf "is_word" "is_word" (defArgs t_is_word.st) (defBody t_is_word.st) (defScope t_is_word.st) .none kV1 dc1 pm1 an1 cd1 ct1), sl1⟩) (c1 : PySem.W.codeIn K cd1 "is_word" = true) (k1 : PySem.W.keepIn K (.ref f1) = true)
    {f2 : Addr} (a2 : PySem.W.nsIn K mainGlobals "number_of" = some (some (.ref f2))) {od2 an2 : Option Addr} {sl2 : Array (Option Value)} {oc2 kV2 dc2 pm2 cd2 ct2 : Value} (l2 : K.lookup f2 = some ⟨oc2, od2, .func (PySem.W.fnOf "number_of" "number_of" (defArgs t_number_of.st) (defBody t_number_of.st) (defScope t_number_of.st) .none kV2 dc2 pm2 an2 cd2 ct2), sl2⟩) (c2 : PySem.W.codeIn K cd2 "number_of" = true) (k2 : PySem.W.keepIn K (.ref f2) = true)
    {f3 : Addr} (a3 : PySem.W.nsIn K mainGlobals "word_of" = some (some (.ref f3))) {od3 an3 : Option Addr} {sl3 : Array (Option Value)} {oc3 kV3 dc3 pm3 cd3 ct3 : Value} (l3 : K.lookup f3 = some ⟨oc3, od3, .func (PySem.W.fnOf "word_of" "word_of" (defArgs t_word_of.st) (defBody t_word_of.st) (defScope t_word_of.st) .none kV3 dc3 pm3 an3 cd3 ct3), sl3⟩) (c3 : PySem.W.codeIn K cd3 "word_of" = true) (k3 : PySem.W.keepIn K (.ref f3) = true)
    {f4 : Addr} (a4 : PySem.W.nsIn K mainGlobals "words" = some (some (.ref f4))) {od4 an4 : Option Addr} {sl4 : Array (Option Value)} {oc4 kV4 dc4 pm4 cd4 ct4 : Value} (l4 : K.lookup f4 = some ⟨oc4, od4, .func (PySem.W.fnOf "words" "words" (defArgs t_words.st) (defBody t_words.st) (defScope t_words.st) .none kV4 dc4 pm4 an4 cd4 ct4), sl4⟩) (c4 : PySem.W.codeIn K cd4 "words" = true) (k4 : PySem.W.keepIn K (.ref f4) = true)
    {f5 : Addr} (a5 : PySem.W.nsIn K mainGlobals "state_bits" = some (some (.ref f5))) {od5 an5 : Option Addr} {sl5 : Array (Option Value)} {oc5 kV5 dc5 pm5 cd5 ct5 : Value} (l5 : K.lookup f5 = some ⟨oc5, od5, .func (PySem.W.fnOf "state_bits" "state_bits" (defArgs t_state_bits.st) (defBody t_state_bits.st) (defScope t_state_bits.st) .none kV5 dc5 pm5 an5 cd5 ct5), sl5⟩) (c5 : PySem.W.codeIn K cd5 "state_bits" = true) (k5 : PySem.W.keepIn K (.ref f5) = true)
    {f6 : Addr} (a6 : PySem.W.nsIn K mainGlobals "plane" = some (some (.ref f6))) {od6 an6 : Option Addr} {sl6 : Array (Option Value)} {oc6 kV6 dc6 pm6 cd6 ct6 : Value} (l6 : K.lookup f6 = some ⟨oc6, od6, .func (PySem.W.fnOf "plane" "plane" (defArgs t_plane.st) (defBody t_plane.st) (defScope t_plane.st) .none kV6 dc6 pm6 an6 cd6 ct6), sl6⟩) (c6 : PySem.W.codeIn K cd6 "plane" = true) (k6 : PySem.W.keepIn K (.ref f6) = true)
    {f7 : Addr} (a7 : PySem.W.nsIn K mainGlobals "wire" = some (some (.ref f7))) {od7 an7 : Option Addr} {sl7 : Array (Option Value)} {oc7 kV7 dc7 pm7 cd7 ct7 : Value} (l7 : K.lookup f7 = some ⟨oc7, od7, .func (PySem.W.fnOf "wire" "wire" (defArgs t_wire.st) (defBody t_wire.st) (defScope t_wire.st) .none kV7 dc7 pm7 an7 cd7 ct7), sl7⟩) (c7 : PySem.W.codeIn K cd7 "wire" = true) (k7 : PySem.W.keepIn K (.ref f7) = true)
    {f8 : Addr} (a8 : PySem.W.nsIn K mainGlobals "_literal" = some (some (.ref f8))) {od8 an8 : Option Addr} {sl8 : Array (Option Value)} {oc8 kV8 dc8 pm8 cd8 ct8 : Value} (l8 : K.lookup f8 = some ⟨oc8, od8, .func (PySem.W.fnOf "_literal" "_literal" (defArgs t_literal.st) (defBody t_literal.st) (defScope t_literal.st) .none kV8 dc8 pm8 an8 cd8 ct8), sl8⟩) (c8 : PySem.W.codeIn K cd8 "_literal" = true) (k8 : PySem.W.keepIn K (.ref f8) = true)
    {f9 : Addr} (a9 : PySem.W.nsIn K mainGlobals "_zero_literal" = some (some (.ref f9))) {od9 an9 : Option Addr} {sl9 : Array (Option Value)} {oc9 kV9 dc9 pm9 cd9 ct9 : Value} (l9 : K.lookup f9 = some ⟨oc9, od9, .func (PySem.W.fnOf "_zero_literal" "_zero_literal" (defArgs t_zero_literal.st) (defBody t_zero_literal.st) (defScope t_zero_literal.st) .none kV9 dc9 pm9 an9 cd9 ct9), sl9⟩) (c9 : PySem.W.codeIn K cd9 "_zero_literal" = true) (k9 : PySem.W.keepIn K (.ref f9) = true)
    {f10 : Addr} (a10 : PySem.W.nsIn K mainGlobals "_sum" = some (some (.ref f10))) {od10 an10 : Option Addr} {sl10 : Array (Option Value)} {oc10 kV10 dc10 pm10 cd10 ct10 : Value} (l10 : K.lookup f10 = some ⟨oc10, od10, .func (PySem.W.fnOf "_sum" "_sum" (defArgs t_sum.st) (defBody t_sum.st) (defScope t_sum.st) .none kV10 dc10 pm10 an10 cd10 ct10), sl10⟩) (c10 : PySem.W.codeIn K cd10 "_sum" = true) (k10 : PySem.W.keepIn K (.ref f10) = true)
    {f11 : Addr} (a11 : PySem.W.nsIn K mainGlobals "_put_field" = some (some (.ref f11))) {od11 an11 : Option Addr} {sl11 : Array (Option Value)} {oc11 kV11 dc11 pm11 cd11 ct11 : Value} (l11 : K.lookup f11 = some ⟨oc11, od11, .func (PySem.W.fnOf "_put_field" "_put_field" (defArgs t_put_field.st) (defBody t_put_field.st) (defScope t_put_field.st) .none kV11 dc11 pm11 an11 cd11 ct11), sl11⟩) (c11 : PySem.W.codeIn K cd11 "_put_field" = true) (k11 : PySem.W.keepIn K (.ref f11) = true)
    {f12 : Addr} (a12 : PySem.W.nsIn K mainGlobals "_put_rows" = some (some (.ref f12))) {od12 an12 : Option Addr} {sl12 : Array (Option Value)} {oc12 kV12 dc12 pm12 cd12 ct12 : Value} (l12 : K.lookup f12 = some ⟨oc12, od12, .func (PySem.W.fnOf "_put_rows" "_put_rows" (defArgs t_put_rows.st) (defBody t_put_rows.st) (defScope t_put_rows.st) .none kV12 dc12 pm12 an12 cd12 ct12), sl12⟩) (c12 : PySem.W.codeIn K cd12 "_put_rows" = true) (k12 : PySem.W.keepIn K (.ref f12) = true)
    {f13 : Addr} (a13 : PySem.W.nsIn K mainGlobals "_put_line" = some (some (.ref f13))) {od13 an13 : Option Addr} {sl13 : Array (Option Value)} {oc13 kV13 dc13 pm13 cd13 ct13 : Value} (l13 : K.lookup f13 = some ⟨oc13, od13, .func (PySem.W.fnOf "_put_line" "_put_line" (defArgs t_put_line.st) (defBody t_put_line.st) (defScope t_put_line.st) .none kV13 dc13 pm13 an13 cd13 ct13), sl13⟩) (c13 : PySem.W.codeIn K cd13 "_put_line" = true) (k13 : PySem.W.keepIn K (.ref f13) = true)
    {f14 : Addr} (a14 : PySem.W.nsIn K mainGlobals "_put_state" = some (some (.ref f14))) {od14 an14 : Option Addr} {sl14 : Array (Option Value)} {oc14 kV14 dc14 pm14 cd14 ct14 : Value} (l14 : K.lookup f14 = some ⟨oc14, od14, .func (PySem.W.fnOf "_put_state" "_put_state" (defArgs t_put_state.st) (defBody t_put_state.st) (defScope t_put_state.st) .none kV14 dc14 pm14 an14 cd14 ct14), sl14⟩) (c14 : PySem.W.codeIn K cd14 "_put_state" = true) (k14 : PySem.W.keepIn K (.ref f14) = true)
    {f15 : Addr} (a15 : PySem.W.nsIn K mainGlobals "lay_out" = some (some (.ref f15))) {od15 an15 : Option Addr} {sl15 : Array (Option Value)} {oc15 kV15 dc15 pm15 cd15 ct15 : Value} (l15 : K.lookup f15 = some ⟨oc15, od15, .func (PySem.W.fnOf "lay_out" "lay_out" (defArgs t_lay_out.st) (defBody t_lay_out.st) (defScope t_lay_out.st) .none kV15 dc15 pm15 an15 cd15 ct15), sl15⟩) (c15 : PySem.W.codeIn K cd15 "lay_out" = true) (k15 : PySem.W.keepIn K (.ref f15) = true)
    {f16 : Addr} (a16 : PySem.W.nsIn K mainGlobals "_law_numbers" = some (some (.ref f16))) {od16 an16 : Option Addr} {sl16 : Array (Option Value)} {oc16 kV16 dc16 pm16 cd16 ct16 : Value} (l16 : K.lookup f16 = some ⟨oc16, od16, .func (PySem.W.fnOf "_law_numbers" "_law_numbers" (defArgs t_law_numbers.st) (defBody t_law_numbers.st) (defScope t_law_numbers.st) .none kV16 dc16 pm16 an16 cd16 ct16), sl16⟩) (c16 : PySem.W.codeIn K cd16 "_law_numbers" = true) (k16 : PySem.W.keepIn K (.ref f16) = true)
    {f17 : Addr} (a17 : PySem.W.nsIn K mainGlobals "_law_take" = some (some (.ref f17))) {od17 an17 : Option Addr} {sl17 : Array (Option Value)} {oc17 kV17 dc17 pm17 cd17 ct17 : Value} (l17 : K.lookup f17 = some ⟨oc17, od17, .func (PySem.W.fnOf "_law_take" "_law_take" (defArgs t_law_take.st) (defBody t_law_take.st) (defScope t_law_take.st) .none kV17 dc17 pm17 an17 cd17 ct17), sl17⟩) (c17 : PySem.W.codeIn K cd17 "_law_take" = true) (k17 : PySem.W.keepIn K (.ref f17) = true)
    {f18 : Addr} (a18 : PySem.W.nsIn K mainGlobals "_law_words" = some (some (.ref f18))) {od18 an18 : Option Addr} {sl18 : Array (Option Value)} {oc18 kV18 dc18 pm18 cd18 ct18 : Value} (l18 : K.lookup f18 = some ⟨oc18, od18, .func (PySem.W.fnOf "_law_words" "_law_words" (defArgs t_law_words.st) (defBody t_law_words.st) (defScope t_law_words.st) .none kV18 dc18 pm18 an18 cd18 ct18), sl18⟩) (c18 : PySem.W.codeIn K cd18 "_law_words" = true) (k18 : PySem.W.keepIn K (.ref f18) = true)
    {f19 : Addr} (a19 : PySem.W.nsIn K mainGlobals "_law_word" = some (some (.ref f19))) {od19 an19 : Option Addr} {sl19 : Array (Option Value)} {oc19 kV19 dc19 pm19 cd19 ct19 : Value} (l19 : K.lookup f19 = some ⟨oc19, od19, .func (PySem.W.fnOf "_law_word" "_law_word" (defArgs t_law_word.st) (defBody t_law_word.st) (defScope t_law_word.st) .none kV19 dc19 pm19 an19 cd19 ct19), sl19⟩) (c19 : PySem.W.codeIn K cd19 "_law_word" = true) (k19 : PySem.W.keepIn K (.ref f19) = true)
    {f20 : Addr} (a20 : PySem.W.nsIn K mainGlobals "_law_rows" = some (some (.ref f20))) {od20 an20 : Option Addr} {sl20 : Array (Option Value)} {oc20 kV20 dc20 pm20 cd20 ct20 : Value} (l20 : K.lookup f20 = some ⟨oc20, od20, .func (PySem.W.fnOf "_law_rows" "_law_rows" (defArgs t_law_rows.st) (defBody t_law_rows.st) (defScope t_law_rows.st) .none kV20 dc20 pm20 an20 cd20 ct20), sl20⟩) (c20 : PySem.W.codeIn K cd20 "_law_rows" = true) (k20 : PySem.W.keepIn K (.ref f20) = true)
    {f21 : Addr} (a21 : PySem.W.nsIn K mainGlobals "_law_field" = some (some (.ref f21))) {od21 an21 : Option Addr} {sl21 : Array (Option Value)} {oc21 kV21 dc21 pm21 cd21 ct21 : Value} (l21 : K.lookup f21 = some ⟨oc21, od21, .func (PySem.W.fnOf "_law_field" "_law_field" (defArgs t_law_field.st) (defBody t_law_field.st) (defScope t_law_field.st) .none kV21 dc21 pm21 an21 cd21 ct21), sl21⟩) (c21 : PySem.W.codeIn K cd21 "_law_field" = true) (k21 : PySem.W.keepIn K (.ref f21) = true)
    {f22 : Addr} (a22 : PySem.W.nsIn K mainGlobals "_law_terms" = some (some (.ref f22))) {od22 an22 : Option Addr} {sl22 : Array (Option Value)} {oc22 kV22 dc22 pm22 cd22 ct22 : Value} (l22 : K.lookup f22 = some ⟨oc22, od22, .func (PySem.W.fnOf "_law_terms" "_law_terms" (defArgs t_law_terms.st) (defBody t_law_terms.st) (defScope t_law_terms.st) .none kV22 dc22 pm22 an22 cd22 ct22), sl22⟩) (c22 : PySem.W.codeIn K cd22 "_law_terms" = true) (k22 : PySem.W.keepIn K (.ref f22) = true)
    {f23 : Addr} (a23 : PySem.W.nsIn K mainGlobals "_law_line" = some (some (.ref f23))) {od23 an23 : Option Addr} {sl23 : Array (Option Value)} {oc23 kV23 dc23 pm23 cd23 ct23 : Value} (l23 : K.lookup f23 = some ⟨oc23, od23, .func (PySem.W.fnOf "_law_line" "_law_line" (defArgs t_law_line.st) (defBody t_law_line.st) (defScope t_law_line.st) .none kV23 dc23 pm23 an23 cd23 ct23), sl23⟩) (c23 : PySem.W.codeIn K cd23 "_law_line" = true) (k23 : PySem.W.keepIn K (.ref f23) = true)
    {f24 : Addr} (a24 : PySem.W.nsIn K mainGlobals "_law_sum" = some (some (.ref f24))) {od24 an24 : Option Addr} {sl24 : Array (Option Value)} {oc24 kV24 dc24 pm24 cd24 ct24 : Value} (l24 : K.lookup f24 = some ⟨oc24, od24, .func (PySem.W.fnOf "_law_sum" "_law_sum" (defArgs t_law_sum.st) (defBody t_law_sum.st) (defScope t_law_sum.st) .none kV24 dc24 pm24 an24 cd24 ct24), sl24⟩) (c24 : PySem.W.codeIn K cd24 "_law_sum" = true) (k24 : PySem.W.keepIn K (.ref f24) = true)
    {f25 : Addr} (a25 : PySem.W.nsIn K mainGlobals "_law_literal" = some (some (.ref f25))) {od25 an25 : Option Addr} {sl25 : Array (Option Value)} {oc25 kV25 dc25 pm25 cd25 ct25 : Value} (l25 : K.lookup f25 = some ⟨oc25, od25, .func (PySem.W.fnOf "_law_literal" "_law_literal" (defArgs t_law_literal.st) (defBody t_law_literal.st) (defScope t_law_literal.st) .none kV25 dc25 pm25 an25 cd25 ct25), sl25⟩) (c25 : PySem.W.codeIn K cd25 "_law_literal" = true) (k25 : PySem.W.keepIn K (.ref f25) = true)
    {f26 : Addr} (a26 : PySem.W.nsIn K mainGlobals "_law_layout" = some (some (.ref f26))) {od26 an26 : Option Addr} {sl26 : Array (Option Value)} {oc26 kV26 dc26 pm26 cd26 ct26 : Value} (l26 : K.lookup f26 = some ⟨oc26, od26, .func (PySem.W.fnOf "_law_layout" "_law_layout" (defArgs t_law_layout.st) (defBody t_law_layout.st) (defScope t_law_layout.st) .none kV26 dc26 pm26 an26 cd26 ct26), sl26⟩) (c26 : PySem.W.codeIn K cd26 "_law_layout" = true) (k26 : PySem.W.keepIn K (.ref f26) = true)
    {f27 : Addr} (a27 : PySem.W.nsIn K mainGlobals "_law_same" = some (some (.ref f27))) {od27 an27 : Option Addr} {sl27 : Array (Option Value)} {oc27 kV27 dc27 pm27 cd27 ct27 : Value} (l27 : K.lookup f27 = some ⟨oc27, od27, .func (PySem.W.fnOf "_law_same" "_law_same" (defArgs t_law_same.st) (defBody t_law_same.st) (defScope t_law_same.st) .none kV27 dc27 pm27 an27 cd27 ct27), sl27⟩) (c27 : PySem.W.codeIn K cd27 "_law_same" = true) (k27 : PySem.W.keepIn K (.ref f27) = true)
    {f28 : Addr} (a28 : PySem.W.nsIn K mainGlobals "_law_drawn" = some (some (.ref f28))) {od28 an28 : Option Addr} {sl28 : Array (Option Value)} {oc28 kV28 dc28 pm28 cd28 ct28 : Value} (l28 : K.lookup f28 = some ⟨oc28, od28, .func (PySem.W.fnOf "_law_drawn" "_law_drawn" (defArgs t_law_drawn.st) (defBody t_law_drawn.st) (defScope t_law_drawn.st) .none kV28 dc28 pm28 an28 cd28 ct28), sl28⟩) (c28 : PySem.W.codeIn K cd28 "_law_drawn" = true) (k28 : PySem.W.keepIn K (.ref f28) = true)
    {f29 : Addr} (a29 : PySem.W.nsIn K mainGlobals "law" = some (some (.ref f29))) {od29 an29 : Option Addr} {sl29 : Array (Option Value)} {oc29 kV29 dc29 pm29 cd29 ct29 : Value} (l29 : K.lookup f29 = some ⟨oc29, od29, .func (PySem.W.fnOf "law" "law" (defArgs t_law.st) (defBody t_law.st) (defScope t_law.st) .none kV29 dc29 pm29 an29 cd29 ct29), sl29⟩) (c29 : PySem.W.codeIn K cd29 "law" = true) (k29 : PySem.W.keepIn K (.ref f29) = true)
    {f30 : Addr} (a30 : PySem.W.findIn K (.ref OMachine) "__init__" = some (some (.ref f30))) (i30 : PySem.W.isFn K (.ref f30) = true) {od30 an30 : Option Addr} {sl30 : Array (Option Value)} {oc30 kV30 dc30 pm30 cd30 ct30 : Value} (l30 : K.lookup f30 = some ⟨oc30, od30, .func (PySem.W.fnOf "__init__" "Machine.__init__" (defArgs t_Machine_init.st) (defBody t_Machine_init.st) (defScope t_Machine_init.st) .none kV30 dc30 pm30 an30 cd30 ct30), sl30⟩) (c30 : PySem.W.codeIn K cd30 "Machine.__init__" = true) (k30 : PySem.W.keepIn K (.ref f30) = true)
    {f31 : Addr} (a31 : PySem.W.findIn K (.ref OMachine) "row" = some (some (.ref f31))) (i31 : PySem.W.isFn K (.ref f31) = true) {od31 an31 : Option Addr} {sl31 : Array (Option Value)} {oc31 kV31 dc31 pm31 cd31 ct31 : Value} (l31 : K.lookup f31 = some ⟨oc31, od31, .func (PySem.W.fnOf "row" "Machine.row" (defArgs t_Machine_row.st) (defBody t_Machine_row.st) (defScope t_Machine_row.st) .none kV31 dc31 pm31 an31 cd31 ct31), sl31⟩) (c31 : PySem.W.codeIn K cd31 "Machine.row" = true) (k31 : PySem.W.keepIn K (.ref f31) = true)
    {f33 : Addr} (a33 : PySem.W.findIn K (.ref OLayout) "__init__" = some (some (.ref f33))) (i33 : PySem.W.isFn K (.ref f33) = true) {od33 an33 : Option Addr} {sl33 : Array (Option Value)} {oc33 kV33 dc33 pm33 cd33 ct33 : Value} (l33 : K.lookup f33 = some ⟨oc33, od33, .func (PySem.W.fnOf "__init__" "Layout.__init__" (defArgs t_Layout_init.st) (defBody t_Layout_init.st) (defScope t_Layout_init.st) .none kV33 dc33 pm33 an33 cd33 ct33), sl33⟩) (c33 : PySem.W.codeIn K cd33 "Layout.__init__" = true) (k33 : PySem.W.keepIn K (.ref f33) = true)
    (z0 : PySem.W.nsIn K mainGlobals "abs" = some none)
    (z1 : PySem.W.nsIn K mainGlobals "all" = some none)
    (z2 : PySem.W.nsIn K mainGlobals "bool" = some none)
    (z3 : PySem.W.nsIn K mainGlobals "dict" = some none)
    (z4 : PySem.W.nsIn K mainGlobals "enumerate" = some none)
    (z5 : PySem.W.nsIn K mainGlobals "int" = some none)
    (z6 : PySem.W.nsIn K mainGlobals "isinstance" = some none)
    (z7 : PySem.W.nsIn K mainGlobals "len" = some none)
    (z8 : PySem.W.nsIn K mainGlobals "list" = some none)
    (z9 : PySem.W.nsIn K mainGlobals "range" = some none)
    (z10 : PySem.W.nsIn K mainGlobals "sorted" = some none)
    (z11 : PySem.W.nsIn K mainGlobals "str" = some none)
    (z12 : PySem.W.nsIn K mainGlobals "tuple" = some none)
    {CBadMachine : Addr} (e0BadMachine : PySem.W.nsIn K mainGlobals "BadMachine" = some (some (.ref CBadMachine)))
    {CBadWord : Addr} (e0BadWord : PySem.W.nsIn K mainGlobals "BadWord" = some (some (.ref CBadWord)))
    (eqBadMachine : PySem.W.excIn K CBadMachine [.type "ValueError", .type "Exception", .type "BaseException", .type "object"] "ValueError.__new__" = true)
    (ekBadMachine : PySem.W.keepIn K (.ref CBadMachine) = true)
    (esBadMachine : PySem.W.subIn K (.ref CBadMachine) (.type "BaseException") = some true)
    (etBadMachine : PySem.W.typeIn K (.ref CBadMachine) = some (.type "type"))
    (eaBadMachine : PySem.W.findIn K (.ref CBadMachine) "__getattribute__" = some (some (.builtin "BaseException.__getattribute__")))
    (ebBadMachine : PySem.W.findIn K (.ref CBadMachine) "__getattr__" = some none)
    (edBadMachine : PySem.W.hasDictIn K CBadMachine = true)
    (efBadMachine : PySem.W.findIn K (.ref CBadMachine) "__class__" = some (some (.builtin "object.__class__")))
    (emBadMachine : PySem.W.mroIn K CBadMachine (.type "object") = some true)
    (eqBadWord : PySem.W.excIn K CBadWord [.type "ValueError", .type "Exception", .type "BaseException", .type "object"] "ValueError.__new__" = true)
    (ekBadWord : PySem.W.keepIn K (.ref CBadWord) = true)
    (esBadWord : PySem.W.subIn K (.ref CBadWord) (.type "BaseException") = some true)
    (etBadWord : PySem.W.typeIn K (.ref CBadWord) = some (.type "type"))
    (eaBadWord : PySem.W.findIn K (.ref CBadWord) "__getattribute__" = some (some (.builtin "BaseException.__getattribute__")))
    (ebBadWord : PySem.W.findIn K (.ref CBadWord) "__getattr__" = some none)
    (edBadWord : PySem.W.hasDictIn K CBadWord = true)
    (efBadWord : PySem.W.findIn K (.ref CBadWord) "__class__" = some (some (.builtin "object.__class__")))
    (emBadWord : PySem.W.mroIn K CBadWord (.type "object") = some true)
    (en0 : PySem.W.specialIn K (.builtin "object.__class__") "__get__" = some (some (.builtin "getset_descriptor.__get__"))) (en1 : PySem.W.takesIn K (.builtin "object.__class__") = some true)
    {ga0 : Addr} {gn0 : Nat} {gd0 : Option Addr} {gs0 : Array (Option Value)} {gt0_0 : Tok} {gt0_1 : Tok} {gt0_2 : Tok} {gt0_3 : Tok} {gt0_4 : Tok}  (g0 : PySem.W.nsIn K mainGlobals "AND" = some (some (.ref ga0))) (gl0 : K.lookup ga0 = some ⟨.type "tuple", gd0, .seq #[.str "and" gt0_0, .int 0 gt0_1, .int 0 gt0_2, .int 0 gt0_3, .int 0 gt0_4] gn0, gs0⟩)
    {ga1 : Addr} {gn1 : Nat} {gd1 : Option Addr} {gs1 : Array (Option Value)} {gt1_0 : Tok} {gt1_1 : Tok} {gt1_2 : Tok} {gt1_3 : Tok} {gt1_4 : Tok}  (g1 : PySem.W.nsIn K mainGlobals "CROSS" = some (some (.ref ga1))) (gl1 : K.lookup ga1 = some ⟨.type "tuple", gd1, .seq #[.str "cross" gt1_0, .int 0 gt1_1, .int 1 gt1_2, .int 0 gt1_3, .int 0 gt1_4] gn1, gs1⟩)
    {gt2 : Tok} (g2 : PySem.W.nsIn K mainGlobals "EAST" = some (some (.int 0 gt2)))
    {ga3 : Addr} {gn3 : Nat} {gd3 : Option Addr} {gs3 : Array (Option Value)} {gt3_0 : Tok} {gt3_1 : Tok} {gt3_2 : Tok} {gt3_3 : Tok} {gt3_4 : Tok}  (g3 : PySem.W.nsIn K mainGlobals "FORK_EAST" = some (some (.ref ga3))) (gl3 : K.lookup ga3 = some ⟨.type "tuple", gd3, .seq #[.str "fork" gt3_0, .int 0 gt3_1, .int 0 gt3_2, .int 0 gt3_3, .int 0 gt3_4] gn3, gs3⟩)
    {ga4 : Addr} {gn4 : Nat} {gd4 : Option Addr} {gs4 : Array (Option Value)} {gt4_0 : Tok} {gt4_1 : Tok} {gt4_2 : Tok} {gt4_3 : Tok} {gt4_4 : Tok}  (g4 : PySem.W.nsIn K mainGlobals "FORK_SOUTH" = some (some (.ref ga4))) (gl4 : K.lookup ga4 = some ⟨.type "tuple", gd4, .seq #[.str "fork" gt4_0, .int 3 gt4_1, .int 0 gt4_2, .int 0 gt4_3, .int 0 gt4_4] gn4, gs4⟩)
    {gt5 : Tok} (g5 : PySem.W.nsIn K mainGlobals "MOST_INPUTS" = some (some (.int 3 gt5)))
    {gt6 : Tok} (g6 : PySem.W.nsIn K mainGlobals "MOST_OUTPUTS" = some (some (.int 3 gt6)))
    {gt7 : Tok} (g7 : PySem.W.nsIn K mainGlobals "MOST_STATES" = some (some (.int 8 gt7)))
    {gt8 : Tok} (g8 : PySem.W.nsIn K mainGlobals "NORTH" = some (some (.int 1 gt8)))
    {ga9 : Addr} {gn9 : Nat} {gd9 : Option Addr} {gs9 : Array (Option Value)} {gt9_0 : Tok} {gt9_1 : Tok} {gt9_2 : Tok}  (g9 : PySem.W.nsIn K mainGlobals "NOT_SOUTH" = some (some (.ref ga9))) (gl9 : K.lookup ga9 = some ⟨.type "tuple", gd9, .seq #[.str "not" gt9_0, .int 3 gt9_1, .int 0 gt9_2] gn9, gs9⟩)
    {ga10 : Addr} {gn10 : Nat} {gd10 : Option Addr} {gs10 : Array (Option Value)} {gt10_0 : Tok} {gt10_1 : Tok} {gt10_2 : Tok} {gt10_3 : Tok} {gt10_4 : Tok}  (g10 : PySem.W.nsIn K mainGlobals "OR" = some (some (.ref ga10))) (gl10 : K.lookup ga10 = some ⟨.type "tuple", gd10, .seq #[.str "or" gt10_0, .int 3 gt10_1, .int 1 gt10_2, .int 0 gt10_3, .int 0 gt10_4] gn10, gs10⟩)
    {gt11 : Tok} (g11 : PySem.W.nsIn K mainGlobals "SOUTH" = some (some (.int 3 gt11)))
    {gt12 : Tok} (g12 : PySem.W.nsIn K mainGlobals "WEST" = some (some (.int 2 gt12)))
    {gt13 : Tok} (g13 : PySem.W.nsIn K mainGlobals "ZERO" = some (some (.int 8 gt13))) :
    Facts w K mg (gam K) Ts glbs blts exs isa atrs ∧ ∃ fd, Fun K t_law.x t_law.q t_law.st fa fd ∧ ∀ (s : Shared) (u : Value), BindsTo s fd ⟨[u], []⟩ [("_law_script", u)] := by
  have e := hfa.symm.trans (PySem.W.mg_of X G a29)
  cases e
  exact ⟨facts X G o0Machine opgMachine ohdMachine opoMachine osaMachine omkMachine okcMachine o0Layout opgLayout ohdLayout opoLayout osaLayout omkLayout okcLayout onMachine_rows onMachineinputs onLayoutins onMachineoutputs onLayoutouts onLayoutpattern onMachinestates a0 l0 c0 k0 a1 l1 c1 k1 a2 l2 c2 k2 a3 l3 c3 k3 a4 l4 c4 k4 a5 l5 c5 k5 a6 l6 c6 k6 a7 l7 c7 k7 a8 l8 c8 k8 a9 l9 c9 k9 a10 l10 c10 k10 a11 l11 c11 k11 a12 l12 c12 k12 a13 l13 c13 k13 a14 l14 c14 k14 a15 l15 c15 k15 a16 l16 c16 k16 a17 l17 c17 k17 a18 l18 c18 k18 a19 l19 c19 k19 a20 l20 c20 k20 a21 l21 c21 k21 a22 l22 c22 k22 a23 l23 c23 k23 a24 l24 c24 k24 a25 l25 c25 k25 a26 l26 c26 k26 a27 l27 c27 k27 a28 l28 c28 k28 a29 l29 c29 k29 a30 i30 l30 c30 k30 a31 i31 l31 c31 k31 a33 i33 l33 c33 k33 z0 z1 z2 z3 z4 z5 z6 z7 z8 z9 z10 z11 z12 e0BadMachine e0BadWord eqBadMachine ekBadMachine esBadMachine etBadMachine eaBadMachine ebBadMachine edBadMachine efBadMachine emBadMachine eqBadWord ekBadWord esBadWord etBadWord eaBadWord ebBadWord edBadWord efBadWord emBadWord en0 en1 g0 gl0 g1 gl1 g2 g3 gl3 g4 gl4 g5 g6 g7 g8 g9 gl9 g10 gl10 g11 g12 g13, _, fun_mk (st := t_law.st) l29 c29 k29, fun s u => .of_eq rfl⟩
end Lw
open PySem PySem.W PyProof.Rows
set_option maxRecDepth 100000 in
set_option maxHeartbeats 0 in
theorem PySem.Challenge.cw_ramet_k23_layouts_holds : PySem.Challenge.rw_ramet_k23_layouts.Holds := by
  w_on; o_law; k_head; (case hw => w_witness2)
  k_fill
  refine Ng.law_walk (l := PySem.Challenge.rw_ramet_k23_layouts) (γ := Lw.gam) (Ts := Lw.Ts) (glb := Lw.glbs) (blt := Lw.blts) (k := 30) (f := 29) (t := Lw.t_law) (x := "_law_script") rfl rfl ⟨rfl, by decide, by decide⟩ (fun w h Y => PySem.W.kIn_of Y) Lw.texts_ok rfl (by intro c z; cases z) rfl ?F Lw.law_true
  case F =>
    intro w mg fa h KX G hmg
    refine' Lw.facts2 KX G hmg ?qy_o0Machine ?qy_opgMachine ?qy_ohdMachine ?qy_opoMachine ?qy_osaMachine ?qy_omkMachine ?qy_okcMachine ?qy_o0Layout ?qy_opgLayout ?qy_ohdLayout ?qy_opoLayout ?qy_osaLayout ?qy_omkLayout ?qy_okcLayout ?qy_onMachine_rows ?qy_onMachineinputs ?qy_onLayoutins ?qy_onMachineoutputs ?qy_onLayoutouts ?qy_onLayoutpattern ?qy_onMachinestates ?qy_a0 ?qy_l0 ?qy_c0 ?qy_k0 ?qy_a1 ?qy_l1 ?qy_c1 ?qy_k1 ?qy_a2 ?qy_l2 ?qy_c2 ?qy_k2 ?qy_a3 ?qy_l3 ?qy_c3 ?qy_k3 ?qy_a4 ?qy_l4 ?qy_c4 ?qy_k4 ?qy_a5 ?qy_l5 ?qy_c5 ?qy_k5 ?qy_a6 ?qy_l6 ?qy_c6 ?qy_k6 ?qy_a7 ?qy_l7 ?qy_c7 ?qy_k7 ?qy_a8 ?qy_l8 ?qy_c8 ?qy_k8 ?qy_a9 ?qy_l9 ?qy_c9 ?qy_k9 ?qy_a10 ?qy_l10 ?qy_c10 ?qy_k10 ?qy_a11 ?qy_l11 ?qy_c11 ?qy_k11 ?qy_a12 ?qy_l12 ?qy_c12 ?qy_k12 ?qy_a13 ?qy_l13 ?qy_c13 ?qy_k13 ?qy_a14 ?qy_l14 ?qy_c14 ?qy_k14 ?qy_a15 ?qy_l15 ?qy_c15 ?qy_k15 ?qy_a16 ?qy_l16 ?qy_c16 ?qy_k16 ?qy_a17 ?qy_l17 ?qy_c17 ?qy_k17 ?qy_a18 ?qy_l18 ?qy_c18 ?qy_k18 ?qy_a19 ?qy_l19 ?qy_c19 ?qy_k19 ?qy_a20 ?qy_l20 ?qy_c20 ?qy_k20 ?qy_a21 ?qy_l21 ?qy_c21 ?qy_k21 ?qy_a22 ?qy_l22 ?qy_c22 ?qy_k22 ?qy_a23 ?qy_l23 ?qy_c23 ?qy_k23 ?qy_a24 ?qy_l24 ?qy_c24 ?qy_k24 ?qy_a25 ?qy_l25 ?qy_c25 ?qy_k25 ?qy_a26 ?qy_l26 ?qy_c26 ?qy_k26 ?qy_a27 ?qy_l27 ?qy_c27 ?qy_k27 ?qy_a28 ?qy_l28 ?qy_c28 ?qy_k28 ?qy_a29 ?qy_l29 ?qy_c29 ?qy_k29 ?qy_a30 ?qy_i30 ?qy_l30 ?qy_c30 ?qy_k30 ?qy_a31 ?qy_i31 ?qy_l31 ?qy_c31 ?qy_k31 ?qy_a33 ?qy_i33 ?qy_l33 ?qy_c33 ?qy_k33 ?qy_z0 ?qy_z1 ?qy_z2 ?qy_z3 ?qy_z4 ?qy_z5 ?qy_z6 ?qy_z7 ?qy_z8 ?qy_z9 ?qy_z10 ?qy_z11 ?qy_z12 ?qy_e0BadMachine ?qy_e0BadWord ?qy_eqBadMachine ?qy_ekBadMachine ?qy_esBadMachine ?qy_etBadMachine ?qy_eaBadMachine ?qy_ebBadMachine ?qy_edBadMachine ?qy_efBadMachine ?qy_emBadMachine ?qy_eqBadWord ?qy_ekBadWord ?qy_esBadWord ?qy_etBadWord ?qy_eaBadWord ?qy_ebBadWord ?qy_edBadWord ?qy_efBadWord ?qy_emBadWord ?qy_en0 ?qy_en1 ?qy_g0 ?qy_gl0 ?qy_g1 ?qy_gl1 ?qy_g2 ?qy_g3 ?qy_gl3 ?qy_g4 ?qy_gl4 ?qy_g5 ?qy_g6 ?qy_g7 ?qy_g8 ?qy_g9 ?qy_gl9 ?qy_g10 ?qy_gl10 ?qy_g11 ?qy_g12 ?qy_g13
    (case qy_o0Machine => k_is)
    (case qy_opgMachine => k_is)
    (case qy_ohdMachine => k_is)
    (case qy_opoMachine => k_is)
    (case qy_osaMachine => k_is)
    (case qy_omkMachine => k_is)
    (case qy_okcMachine => k_is)
    (case qy_o0Layout => k_is)
    (case qy_opgLayout => k_is)
    (case qy_ohdLayout => k_is)
    (case qy_opoLayout => k_is)
    (case qy_osaLayout => k_is)
    (case qy_omkLayout => k_is)
    (case qy_okcLayout => k_is)
    (case qy_onMachine_rows => k_is)
    (case qy_onMachineinputs => k_is)
    (case qy_onLayoutins => k_is)
    (case qy_onMachineoutputs => k_is)
    (case qy_onLayoutouts => k_is)
    (case qy_onLayoutpattern => k_is)
    (case qy_onMachinestates => k_is)
    (case qy_a0 => k_is)
    (case qy_l0 => k_is)
    (case qy_c0 => k_is)
    (case qy_k0 => k_is)
    (case qy_a1 => k_is)
    (case qy_l1 => k_is)
    (case qy_c1 => k_is)
    (case qy_k1 => k_is)
    (case qy_a2 => k_is)
    (case qy_l2 => k_is)
    (case qy_c2 => k_is)
    (case qy_k2 => k_is)
    (case qy_a3 => k_is)
    (case qy_l3 => k_is)
    (case qy_c3 => k_is)
    (case qy_k3 => k_is)
    (case qy_a4 => k_is)
    (case qy_l4 => k_is)
    (case qy_c4 => k_is)
    (case qy_k4 => k_is)
    (case qy_a5 => k_is)
    (case qy_l5 => k_is)
    (case qy_c5 => k_is)
    (case qy_k5 => k_is)
    (case qy_a6 => k_is)
    (case qy_l6 => k_is)
    (case qy_c6 => k_is)
    (case qy_k6 => k_is)
    (case qy_a7 => k_is)
    (case qy_l7 => k_is)
    (case qy_c7 => k_is)
    (case qy_k7 => k_is)
    (case qy_a8 => k_is)
    (case qy_l8 => k_is)
    (case qy_c8 => k_is)
    (case qy_k8 => k_is)
    (case qy_a9 => k_is)
    (case qy_l9 => k_is)
    (case qy_c9 => k_is)
    (case qy_k9 => k_is)
    (case qy_a10 => k_is)
    (case qy_l10 => k_is)
    (case qy_c10 => k_is)
    (case qy_k10 => k_is)
    (case qy_a11 => k_is)
    (case qy_l11 => k_is)
    (case qy_c11 => k_is)
    (case qy_k11 => k_is)
    (case qy_a12 => k_is)
    (case qy_l12 => k_is)
    (case qy_c12 => k_is)
    (case qy_k12 => k_is)
    (case qy_a13 => k_is)
    (case qy_l13 => k_is)
    (case qy_c13 => k_is)
    (case qy_k13 => k_is)
    (case qy_a14 => k_is)
    (case qy_l14 => k_is)
    (case qy_c14 => k_is)
    (case qy_k14 => k_is)
    (case qy_a15 => k_is)
    (case qy_l15 => k_is)
    (case qy_c15 => k_is)
    (case qy_k15 => k_is)
    (case qy_a16 => k_is)
    (case qy_l16 => k_is)
    (case qy_c16 => k_is)
    (case qy_k16 => k_is)
    (case qy_a17 => k_is)
    (case qy_l17 => k_is)
    (case qy_c17 => k_is)
    (case qy_k17 => k_is)
    (case qy_a18 => k_is)
    (case qy_l18 => k_is)
    (case qy_c18 => k_is)
    (case qy_k18 => k_is)
    (case qy_a19 => k_is)
    (case qy_l19 => k_is)
    (case qy_c19 => k_is)
    (case qy_k19 => k_is)
    (case qy_a20 => k_is)
    (case qy_l20 => k_is)
    (case qy_c20 => k_is)
    (case qy_k20 => k_is)
    (case qy_a21 => k_is)
    (case qy_l21 => k_is)
    (case qy_c21 => k_is)
    (case qy_k21 => k_is)
    (case qy_a22 => k_is)
    (case qy_l22 => k_is)
    (case qy_c22 => k_is)
    (case qy_k22 => k_is)
    (case qy_a23 => k_is)
    (case qy_l23 => k_is)
    (case qy_c23 => k_is)
    (case qy_k23 => k_is)
    (case qy_a24 => k_is)
    (case qy_l24 => k_is)
    (case qy_c24 => k_is)
    (case qy_k24 => k_is)
    (case qy_a25 => k_is)
    (case qy_l25 => k_is)
    (case qy_c25 => k_is)
    (case qy_k25 => k_is)
    (case qy_a26 => k_is)
    (case qy_l26 => k_is)
    (case qy_c26 => k_is)
    (case qy_k26 => k_is)
    (case qy_a27 => k_is)
    (case qy_l27 => k_is)
    (case qy_c27 => k_is)
    (case qy_k27 => k_is)
    (case qy_a28 => k_is)
    (case qy_l28 => k_is)
    (case qy_c28 => k_is)
    (case qy_k28 => k_is)
    (case qy_a29 => k_is)
    (case qy_l29 => k_is)
    (case qy_c29 => k_is)
    (case qy_k29 => k_is)
    (case qy_a30 => k_is)
    (case qy_i30 => k_is)
    (case qy_l30 => k_is)
    (case qy_c30 => k_is)
    (case qy_k30 => k_is)
    (case qy_a31 => k_is)
    (case qy_i31 => k_is)
    (case qy_l31 => k_is)
    (case qy_c31 => k_is)
    (case qy_k31 => k_is)
    (case qy_a33 => k_is)
    (case qy_i33 => k_is)
    (case qy_l33 => k_is)
    (case qy_c33 => k_is)
    (case qy_k33 => k_is)
    (case qy_z0 => k_is)
    (case qy_z1 => k_is)
    (case qy_z2 => k_is)
    (case qy_z3 => k_is)
    (case qy_z4 => k_is)
    (case qy_z5 => k_is)
    (case qy_z6 => k_is)
    (case qy_z7 => k_is)
    (case qy_z8 => k_is)
    (case qy_z9 => k_is)
    (case qy_z10 => k_is)
    (case qy_z11 => k_is)
    (case qy_z12 => k_is)
    (case qy_e0BadMachine => k_is)
    (case qy_e0BadWord => k_is)
    (case qy_eqBadMachine => k_exc)
    (case qy_ekBadMachine => k_is)
    (case qy_esBadMachine => k_is)
    (case qy_etBadMachine => k_is)
    (case qy_eaBadMachine => k_is)
    (case qy_ebBadMachine => k_is)
    (case qy_edBadMachine => k_is)
    (case qy_efBadMachine => k_is)
    (case qy_emBadMachine => k_is)
    (case qy_eqBadWord => k_exc)
    (case qy_ekBadWord => k_is)
    (case qy_esBadWord => k_is)
    (case qy_etBadWord => k_is)
    (case qy_eaBadWord => k_is)
    (case qy_ebBadWord => k_is)
    (case qy_edBadWord => k_is)
    (case qy_efBadWord => k_is)
    (case qy_emBadWord => k_is)
    (case qy_en0 => k_is)
    (case qy_en1 => k_is)
    (case qy_g0 => k_is)
    (case qy_gl0 => k_is)
    (case qy_g1 => k_is)
    (case qy_gl1 => k_is)
    (case qy_g2 => k_is)
    (case qy_g3 => k_is)
    (case qy_gl3 => k_is)
    (case qy_g4 => k_is)
    (case qy_gl4 => k_is)
    (case qy_g5 => k_is)
    (case qy_g6 => k_is)
    (case qy_g7 => k_is)
    (case qy_g8 => k_is)
    (case qy_g9 => k_is)
    (case qy_gl9 => k_is)
    (case qy_g10 => k_is)
    (case qy_gl10 => k_is)
    (case qy_g11 => k_is)
    (case qy_g12 => k_is)
    (case qy_g13 => k_is)

