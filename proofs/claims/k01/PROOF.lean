import PyProof.Rows.All
import Wide.All
import OpenK.AllK
import Wide.FinOn
import HandS.ForMost
import HandS.Dict
import KE.KDictKeyed
import KE.KeyNested
import HandS.ForExc
import KE.DatumOrd
import HandS.Small
import HandS.Wide
import HandS.WideBits
import HandS.TupAny
import HandS.TupMul
import HandS.Style
import KE.DataEq
import PyProof.StrOps2
import HandS.IsInst
import HandS.Conv
import HandS.ExcOwn
import HandS.WordsExc
import HandS.Zip
import HandS.Rev
import HandS.NoneIn
import HandS.ExcField
import HandS.ExcInit
import HandS.ClsMeth
import HandS.TryMany
import HandS.SortInts
import HandS.Text
import HandS.Codes
import KE.KExcIs
import KE.KTryMore
import KE.IntTextText
import HandS.StrMore
import PyProof.StrLawsFrom
import HandS.More
import KE.GoesRaise
import KE.GoesMore
import HandS.Deep
import KE.GoesZip
import KE.KRevSl
import HandS.RaiseMore
import PyProof.ConsumeWalk
import PyProof.Rows.SetFrom
import HandS.Strs
import HandS.DictEq
import PySem.Challenge.RW_papervault_k01_what_is_a_thing
set_option Elab.async false
set_option linter.all false
set_option maxRecDepth 100000
set_option maxHeartbeats 4000000
/-! Dicts whose keys are things of any kind: what stands in the heap, looked up, put, taken out. -/
namespace PV
open PySem L2 PyProof.Rows
/-- a value that is this key -/
def KyIs (h : Heap) (k : NestedKey) (v : Value) : Prop := NestedIs h k v ∧ k.depth ≤ 8
/-- the keys by their entries -/
def KysAt (w : World) (h : Heap) (ks : List NestedKey) (es : List DictEntry) : Prop := Paired (fun k e => e.hash = k.hash w ∧ KyIs h k e.key) ks es
theorem paired_at {α β : Type} {F : α → β → Prop} : ∀ {l : List α} {m : List β} {i : Nat} {y : β}, Paired F l m → m[i]? = some y → ∃ x, l[i]? = some x ∧ F x y
  | _, _, _, _, .nil, h => by simp at h
  | _, _, 0, _, .cons r _, h => by simp at h; subst h; exact ⟨_, rfl, r⟩
  | _, _, i + 1, _, .cons _ t, h => by simpa using paired_at t (by simpa using h)
theorem paired_at' {α β : Type} {F : α → β → Prop} : ∀ {l : List α} {m : List β} {i : Nat} {x : α}, Paired F l m → l[i]? = some x → ∃ y, m[i]? = some y ∧ F x y
  | _, _, _, _, .nil, h => by simp at h
  | _, _, 0, _, .cons r _, h => by simp at h; subst h; exact ⟨_, rfl, r⟩
  | _, _, i + 1, _, .cons _ t, h => by simpa using paired_at' t (by simpa using h)
theorem paired_len {α β : Type} {F : α → β → Prop} : ∀ {l : List α} {m : List β}, Paired F l m → l.length = m.length
  | _, _, .nil => rfl
  | _, _, .cons _ t => by simp [paired_len t]
/-- the places that are looked at -/
abbrev plcs (w : World) (es : Array DictEntry) (k : NestedKey) : List Nat := placesWithHash es.size (fun i => es[i]?.map (·.hash)) (k.hash w)
theorem plcs_mem {w : World} {es : Array DictEntry} {k : NestedKey} {i : Nat} : i ∈ plcs w es k ↔ ∃ e, es[i]? = some e ∧ e.hash = k.hash w := by
  unfold plcs placesWithHash
  rw [List.mem_filter, List.mem_range]
  constructor
  · rintro ⟨h1, h2⟩
    refine ⟨es[i], Array.getElem?_eq_getElem h1, ?_⟩
    dsimp only at h2
    rw [Array.getElem?_eq_getElem h1] at h2
    simpa using h2
  · rintro ⟨e, h1, h2⟩
    refine ⟨(Array.getElem?_eq_some_iff.mp h1).1, ?_⟩
    dsimp only
    rw [h1]
    simp [h2]
theorem plcs_nodup {w : World} {es : Array DictEntry} {k : NestedKey} : (plcs w es k).Nodup := by
  unfold plcs placesWithHash
  exact List.Pairwise.filter _ List.nodup_range
section
variable {prog : Program} {w : World} {A : Around} {E : Value → Shared → Prop} {s : Shared} {d : Addr} {o : Obj} {es : Array DictEntry} {ep : Nat} {k : NestedKey} {u : Value} {ks : List NestedKey}
theorem ky_eq {x y : NestedKey} {a b : Value} {Q : Bool → Shared → Prop} (hu : A.units + 8 < cLine) (hx : KyIs s.heap x a) (hy : KyIs s.heap y b) (h : Q (decide (x = y)) s) : wpAny (model prog w) A (eqBool a b) Q E s := by
  have : min x.depth y.depth ≤ x.depth := Nat.min_le_left _ _
  have hd := hx.2
  exact eqAt_key x y A s a b hx.1 hy.1 (by omega) prog w E Q (by rw [← NestedKey.decide_eq]; exact h)
theorem ky_quiet {x : NestedKey} {a : Value} {Q : Bool → Shared → Prop} (hx : KyIs s.heap x a) (h : Q true s) : wpAny (model prog w) A (eqIsQuiet 8 a) Q E s := quiet_key x a 8 s hx.1 hx.2 A E Q h
theorem ky_tells {st : List Value} {Q : Bool → Shared → Prop} (hk : KyIs s.heap k u) (hst : ∀ v ∈ st, ∃ k', KyIs s.heap k' v) (h : Q false s) : wpAny (model prog w) A (tableMayTell u st) Q E s := by
  unfold tableMayTell
  split
  · exact wpAny_pure h
  · refine wpAny_bind (ky_quiet hk (wpAny_bind ?_))
    refine wpAny_forIn_list _ (fun rest r s' => s' = s ∧ r = (none, ()) ∧ ∀ v ∈ rest, ∃ k', KyIs s.heap k' v) _ ?_ ?_ _ _ ⟨rfl, rfl, hst⟩
    · rintro v rest r _ ⟨rfl, rfl, q⟩
      obtain ⟨k', hv⟩ := q v (List.mem_cons_self ..)
      exact wpAny_bind (ky_quiet hv (wpAny_pure ⟨rfl, rfl, fun z hz => q z (List.mem_cons_of_mem _ hz)⟩))
    · rintro r _ ⟨rfl, rfl, _⟩
      exact wpAny_pure h
/-- where the key stands, among the places gone through -/
def Seen (ks : List NestedKey) (k : NestedKey) (pre : List Nat) (hit : Option Nat) : Prop := (hit = none ∧ ∀ i ∈ pre, ks[i]? ≠ some k) ∨ ∃ j, hit = some j ∧ j ∈ pre ∧ ks[j]? = some k
theorem ks_uniq (hn : ks.Nodup) {i j : Nat} (hi : ks[i]? = some k) (hj : ks[j]? = some k) : i = j := (List.getElem?_inj (List.getElem?_eq_some_iff.mp hi).1 hn).mp (hi.trans hj.symm)
theorem no_key {Q : Prop} (hp : KysAt w s.heap ks es.toList) (hno : ∀ i ∈ plcs w es k, ks[i]? ≠ some k) : k ∉ ks := fun hm => by
  obtain ⟨i, hi, e⟩ := List.mem_iff_getElem.mp hm
  have hi' : ks[i]? = some k := by rw [List.getElem?_eq_getElem hi, e]
  obtain ⟨en, he, h1, _⟩ := paired_at' hp hi'
  exact hno i (plcs_mem.mpr ⟨en, by rw [← Array.getElem?_toList]; exact he, h1⟩) hi'
theorem ky_shape {h : Heap} (hk : KyIs h k u) : (∃ x t, u = .str x t) ∨ (∃ a, u = .ref a) ∨ u = .none ∨ (∃ b, u = .bool b) ∨ ∃ i t, u = .int i t := by
  have hk1 := hk.1
  cases hk1 with
  | none => exact .inr (.inr (.inl rfl))
  | bool _ => exact .inr (.inr (.inr (.inl ⟨_, rfl⟩)))
  | int i t => exact .inr (.inr (.inr (.inr ⟨i, t, rfl⟩)))
  | text x t => exact .inl ⟨x, t, rfl⟩
  | tup _ _ _ _ => exact .inr (.inl ⟨_, rfl⟩)
theorem ky_find {Q : Option Nat → Shared → Prop} (hu : A.units + 8 < cLine) (hk : KyIs s.heap k u) (ho : s.heap.get? d = some o) (hd : o.data = .dict es ep) (hp : KysAt w s.heap ks es.toList) (hn : ks.Nodup)
    (hnone : k ∉ ks → Q none s) (hsome : ∀ j, ks[j]? = some k → Q (some j) s) : wpAny (model prog w) A (dictFind d u (k.hash w)) Q E s := by
  have at_ : ∀ {i : Nat} {e : DictEntry}, es[i]? = some e → ∃ k', ks[i]? = some k' ∧ e.hash = k'.hash w ∧ KyIs s.heap k' e.key := fun h => paired_at hp (by rw [Array.getElem?_toList]; exact h)
  have hst : ∀ v ∈ (plcs w es k).filterMap (fun i => es[i]?.map (·.key)), ∃ k', KyIs s.heap k' v := fun v hv => by
    obtain ⟨i, _, hi⟩ := List.mem_filterMap.mp hv
    cases he : es[i]? with
    | none => rw [he] at hi; cases hi
    | some e =>
      rw [he] at hi
      obtain rfl : e.key = v := by simpa using hi
      obtain ⟨k', _, _, h3⟩ := at_ he
      exact ⟨k', h3⟩
  have plain : wpAny (model prog w) A (dictWalkPlain d u (k.hash w) es (plcs w es k)) Q E s := by
    unfold dictWalkPlain
    refine wpAny_bind ?_
    refine wpAny_forIn_list _ (fun rest b s' => s' = s ∧ b = (none, ()) ∧ ∃ pre, plcs w es k = pre ++ rest ∧ ∀ i ∈ pre, ks[i]? ≠ some k) _ ?_ ?_ _ _ ⟨rfl, rfl, [], rfl, fun _ h => nomatch h⟩
    · rintro i rest b _ ⟨rfl, rfl, pre, hpre, hno⟩
      obtain ⟨e, he, hh⟩ := plcs_mem.mp (show i ∈ plcs w es k by rw [hpre]; simp)
      obtain ⟨k', hk', _, hke⟩ := at_ he
      rw [he]
      dsimp only
      rw [if_pos (by rw [hh]; exact beq_self_eq_true _)]
      refine wpAny_bind (wpAny_dictEpoch ho hd (wpAny_bind (ky_eq hu hke hk (wpAny_bind (wpAny_dictEpoch ho hd ?_)))))
      rw [if_neg (by simp)]
      by_cases e1 : k' = k
      · subst e1
        rw [decide_eq_true rfl]
        exact wpAny_bind (wpAny_rule (wpAny_pure (wpAny_pure (hsome i hk'))))
      · rw [decide_eq_false e1]
        refine wpAny_bind (wpAny_rule (wpAny_pure ⟨rfl, rfl, pre ++ [i], by rw [hpre]; simp, fun j hj => ?_⟩))
        rcases List.mem_append.mp hj with hj | hj
        · exact hno j hj
        · rw [List.mem_singleton.mp hj, hk']
          exact fun z => e1 (Option.some.inj z)
    · rintro b _ ⟨rfl, rfl, pre, hpre, hno⟩
      rw [List.append_nil] at hpre
      exact wpAny_pure (hnone (no_key (Q := True) hp (by rw [hpre]; exact hno)))
  unfold dictFind
  refine wpAny_holding (wpAny_bind (wpAny_dictEntries ho hd ?_))
  rcases ky_shape hk with ⟨x, t, rfl⟩ | ⟨a, rfl⟩ | rfl | ⟨b, rfl⟩ | ⟨i, t, rfl⟩
  case' inl =>
    dsimp only
    by_cases hs : (es.all fun e => isExactStrKey e.key) = true
    · rw [if_pos hs]
      have ek : k = .text x := NestedIs.inj _ _ _ hk.1 (.text x t)
      unfold foundByValue
      cases hf : es.findIdx? (fun e => e.key.isStr x) with
      | none =>
        dsimp only
        refine wpAny_bind (wpAny_pure (wpAny_pure (hnone fun hm => ?_)))
        obtain ⟨j, hj, e⟩ := List.mem_iff_getElem.mp hm
        obtain ⟨en, he, _, h3⟩ := paired_at' hp (show ks[j]? = some k by rw [List.getElem?_eq_getElem hj, e])
        have h4 := h3.1
        rw [ek] at h4
        have hno := Array.findIdx?_eq_none_iff.mp hf en (Array.mem_of_getElem? (by rw [← Array.getElem?_toList]; exact he))
        generalize en.key = v at h4 hno
        cases h4
        simp [Value.isStr] at hno
      | some i =>
        dsimp only
        obtain ⟨hlt, hi, _⟩ := Array.findIdx?_eq_some_iff_getElem.mp hf
        have he := Array.getElem?_eq_getElem hlt
        obtain ⟨k', hk', _, hke⟩ := at_ he
        rw [he]
        dsimp only
        have e1 : k' = k := by
          have h4 := hke.1
          generalize es[i].key = v at h4 hi
          cases h4 with
          | text y t' =>
            rw [ek]
            simp [Value.isStr] at hi
            rw [hi]
          | _ => simp [Value.isStr] at hi
        refine wpAny_bind (wpAny_dictEpoch ho hd (wpAny_bind (ky_eq hu hke hk (wpAny_bind (wpAny_dictEpoch ho hd ?_)))))
        rw [if_neg (by simp), decide_eq_true e1]
        exact wpAny_bind (wpAny_rule (wpAny_pure (hsome i (e1 ▸ hk'))))
    rw [if_neg hs]
  all_goals (try dsimp only)
  all_goals (refine wpAny_ite_split (fun _ => plain) (fun _ => ?_))
  case' inr.inl =>
    rw [if_neg (by
      rw [← Array.any_toList, List.any_eq_true]
      rintro ⟨e, hin, hc⟩
      rw [Bool.and_eq_true, beq_iff_eq, bne_iff_ne] at hc
      obtain ⟨j, hj⟩ := List.mem_iff_getElem?.mp hin
      obtain ⟨k', _, h2, h3⟩ := paired_at hp hj
      rw [hc.1] at h3
      exact hc.2 (by rw [h2, NestedIs.inj _ _ _ h3.1 hk.1]))]
  all_goals
    refine wpAny_ite_split (fun _ => wpAny_bind (wpAny_pure ?_)) (fun _ => wpAny_bind (ky_tells hk hst ?_))
  all_goals
    rw [if_neg (by simp)]
    refine wpAny_bind ?_
    refine wpAny_forIn_list _ (fun rest b s' => s' = s ∧ ∃ hit pre, b = (none, hit) ∧ plcs w es k = pre ++ rest ∧ Seen ks k pre hit) _ ?_ ?_ _ _ ⟨rfl, none, [], rfl, rfl, .inl ⟨rfl, fun _ h => nomatch h⟩⟩
    · rintro i rest b _ ⟨rfl, hit, pre, rfl, hpre, hseen⟩
      obtain ⟨e, he, hh⟩ := plcs_mem.mp (show i ∈ plcs w es k by rw [hpre]; simp)
      obtain ⟨k', hk', _, hke⟩ := at_ he
      rw [he]
      dsimp only
      rw [if_pos (by rw [hh]; exact beq_self_eq_true _)]
      refine wpAny_bind (wpAny_dictEpoch ho hd (wpAny_bind (ky_eq hu hke hk (wpAny_bind (wpAny_dictEpoch ho hd ?_)))))
      rw [if_neg (by simp)]
      by_cases e1 : k' = k
      · subst e1
        rw [decide_eq_true rfl]
        rcases hseen with ⟨rfl, hno⟩ | ⟨j, rfl, hj, hj2⟩
        · refine wpAny_bind (wpAny_rule ?_)
          refine wpAny_ite_split (fun _ => wpAny_pure (wpAny_pure (hsome i hk'))) (fun _ => wpAny_pure ⟨rfl, some i, pre ++ [i], rfl, by rw [hpre]; simp, .inr ⟨i, rfl, by simp, hk'⟩⟩)
        · exfalso
          have := ks_uniq hn hj2 hk'
          subst this
          have hnd := plcs_nodup (w := w) (es := es) (k := k')
          rw [hpre, List.nodup_append] at hnd
          exact hnd.2.2 j hj j (by simp) rfl
      · rw [decide_eq_false e1]
        have hs2 : Seen ks k (pre ++ [i]) hit := by
          rcases hseen with ⟨rfl, hno⟩ | ⟨j, rfl, hj, hj2⟩
          · refine .inl ⟨rfl, fun j hj => ?_⟩
            rcases List.mem_append.mp hj with hj | hj
            · exact hno j hj
            · rw [List.mem_singleton.mp hj, hk']
              exact fun z => e1 (Option.some.inj z)
          · exact .inr ⟨j, rfl, List.mem_append_left _ hj, hj2⟩
        refine wpAny_bind (wpAny_rule ?_)
        first
          | exact wpAny_pure ⟨rfl, hit, pre ++ [i], rfl, by rw [hpre]; simp, hs2⟩
          | (rw [if_neg (by simp)]; exact wpAny_pure ⟨rfl, hit, pre ++ [i], rfl, by rw [hpre]; simp, hs2⟩)
    · rintro b _ ⟨rfl, hit, pre, rfl, hpre, hseen⟩
      rw [List.append_nil] at hpre
      rcases hseen with ⟨rfl, hno⟩ | ⟨j, rfl, hj, hj2⟩
      · exact wpAny_pure (hnone (no_key (Q := True) hp (by rw [hpre]; exact hno)))
      · exact wpAny_pure (hsome j hj2)
end
/-! ### what stands in such a dict -/
abbrev XEn := NestedKey × V × V
def EnR (w : World) (x : XEn) (e : DictEntry) : Prop := e.hash = x.1.hash w ∧ RelV x.2.1 e.key ∧ RelV x.2.2 e.val
def DxAt (w : World) (a : Addr) (xs : List XEn) (h : Heap) : Prop := xs.length ≤ sizeLine ∧ (a == sysModules) = false ∧ ∃ o es ep, h.get? a = some o ∧ o.ExactDict ∧ o.data = .dict es ep ∧ Paired (EnR w) xs es.toList
/-- the thing that is tracked -/
def dxH (w : World) (a : Addr) (xs : List XEn) : HO := .ext (DxAt w a xs)
theorem dx_ok {P : Program} {w w' : World} {H : Hp} {h : Heap} {a : Addr} {xs : List XEn} : ObjOk P w' H h a (dxH w a xs) ↔ DxAt w a xs h := by
  constructor
  · exact fun z => z.1
  · intro z
    refine ⟨z, ?_, ?_⟩
    · obtain ⟨_, _, o, _, _, ho, _⟩ := z
      exact ⟨o, ho⟩
    · rintro h1 h2 ⟨z1, z2, o, es, ep, ho, hr⟩ hk
      exact ⟨z1, z2, o, es, ep, hk _ ho, hr⟩
def valX (xs : List XEn) (k : NestedKey) : Option V := (xs.find? fun x => decide (x.1 = k)).map (·.2.2)
theorem valX_at : ∀ {xs : List XEn} {k : NestedKey} {j : Nat} {x : XEn}, (xs.map (·.1)).Nodup → xs[j]? = some x → x.1 = k → valX xs k = some x.2.2
  | [], _, _, _, _, h, _ => by simp at h
  | y :: ys, k, 0, x, _, h, e => by
    simp at h; subst h
    simp [valX, List.find?_cons, e]
  | y :: ys, k, j + 1, x, hn, h, e => by
    rw [List.map_cons, List.nodup_cons] at hn
    have h' : ys[j]? = some x := by simpa using h
    have ne : ¬ y.1 = k := fun z => hn.1 (by rw [z, ← e]; exact List.mem_map_of_mem (List.mem_of_getElem? h'))
    have := valX_at hn.2 h' e
    simpa [valX, List.find?_cons, ne] using this
theorem valX_no {xs : List XEn} {k : NestedKey} (h : k ∉ xs.map (·.1)) : valX xs k = none := by
  unfold valX
  rw [List.find?_eq_none.mpr fun x hx hk => h (by rw [← of_decide_eq_true hk]; exact List.mem_map_of_mem hx)]
  rfl
open Classical in
def putX (xs : List XEn) (k : NestedKey) (x y : V) : List XEn := if k ∈ xs.map (·.1) then xs.map fun e => if e.1 = k then (e.1, e.2.1, y) else e else xs ++ [(k, x, y)]
theorem paired_snoc {α β : Type} {F : α → β → Prop} {a : α} {b : β} (q : F a b) : ∀ {l : List α} {m : List β}, Paired F l m → Paired F (l ++ [a]) (m ++ [b])
  | _, _, .nil => .cons q .nil
  | _, _, .cons r t => .cons r (paired_snoc q t)
theorem paired_mod {w : World} {k : NestedKey} {y : V} {u : Value} (ry : RelV y u) : ∀ {xs : List XEn} {es : List DictEntry} {j : Nat}, (xs.map (·.1)).Nodup → (xs.map (·.1))[j]? = some k → Paired (EnR w) xs es →
    Paired (EnR w) (xs.map fun e => if e.1 = k then (e.1, e.2.1, y) else e) (es.modify j fun e => { e with val := u })
  | _, _, _, _, h, .nil => by simp at h
  | x :: xs, e :: es, 0, hn, h, .cons r t => by
    simp at h
    rw [List.map_cons, List.nodup_cons] at hn
    have e0 : (xs.map fun e => if e.1 = k then (e.1, e.2.1, y) else e) = xs := by
      conv => rhs; rw [← List.map_id xs]
      refine List.map_congr_left fun z hz => if_neg fun q => hn.1 ?_
      rw [h, ← q]
      exact List.mem_map_of_mem hz
    rw [List.map_cons, e0, if_pos h]
    exact .cons ⟨r.1, r.2.1, ry⟩ t
  | x :: xs, e :: es, j + 1, hn, h, .cons r t => by
    rw [List.map_cons, List.nodup_cons] at hn
    have h' : (xs.map (·.1))[j]? = some k := by simpa using h
    have ne : ¬ x.1 = k := fun q => hn.1 (by rw [q]; exact List.mem_of_getElem? h')
    rw [List.map_cons, if_neg ne]
    exact .cons r (paired_mod ry hn.2 h' t)
section
variable {prog : Program} {w : World} {A : Around} {E : Value → Shared → Prop} {s : Shared} {d : Addr} {k : NestedKey} {u : Value} {xs : List XEn}
theorem dx_kys {es : List DictEntry} (hp : Paired (EnR w) xs es) (hK : ∀ x ∈ xs, ∀ v, RelV x.2.1 v → KyIs s.heap x.1 v) : KysAt w s.heap (xs.map (·.1)) es := by
  unfold KysAt
  induction hp with
  | nil => exact .nil
  | cons r t ih => exact .cons ⟨r.1, hK _ (List.mem_cons_self ..) _ r.2.1⟩ (ih fun x hx => hK x (List.mem_cons_of_mem _ hx))
theorem ky_hash {Q : Int → Shared → Prop} (hu : A.units + 8 < cLine) (hk : KyIs s.heap k u) (h : Q (k.hash w) { s with toks := s.toks + k.draws }) : wpAny (model prog w) A (pyHash u) Q E s :=
  pyHash_key k u A s Q hk.1 (by have := hk.2; omega) h
theorem dx_get {Q : Option Value → Shared → Prop} (hu : A.units + 8 < cLine) (hk : KyIs s.heap k u) (hm : DxAt w d xs s.heap) (hK : ∀ x ∈ xs, ∀ v, RelV x.2.1 v → KyIs s.heap x.1 v) (hn : (xs.map (·.1)).Nodup)
    (h : ∀ r, RelO (valX xs k) r → Q r { s with toks := s.toks + k.draws }) : wpAny (model prog w) A (dictGet d u) Q E s := by
  obtain ⟨_, _, o, es, ep, ho, _, hd, hp⟩ := hm
  unfold dictGet
  refine wpAny_holding (wpAny_bind (ky_hash hu hk (wpAny_bind ?_)))
  refine ky_find (s := { s with toks := s.toks + k.draws }) hu hk ho hd (dx_kys (s := s) hp hK) hn (fun hno => ?_) (fun j hj => ?_)
  · exact wpAny_pure (h none (by rw [valX_no hno]; exact True.intro))
  · rw [List.getElem?_map] at hj
    obtain ⟨x, hx, e⟩ := Option.map_eq_some_iff.mp hj
    obtain ⟨en, he, r⟩ := paired_at' hp hx
    refine wpAny_bind (wpAny_dictEntries (s := { s with toks := s.toks + k.draws }) ho hd (wpAny_pure (h _ ?_)))
    rw [valX_at hn hx e]
    rw [Array.getElem?_toList] at he
    rw [he]
    exact r.2.2
theorem dx_set {x y : V} {z : Value} {Q : Unit → Shared → Prop} (hu : A.units + 8 < cLine) (hk : KyIs s.heap k u) (hm : DxAt w d xs s.heap) (hK : ∀ x ∈ xs, ∀ v, RelV x.2.1 v → KyIs s.heap x.1 v) (hn : (xs.map (·.1)).Nodup) (hl : xs.length < sizeLine)
    (rx : RelV x u) (ry : RelV y z) (h : ∀ h', DxAt w d (putX xs k x y) h' → Heap.SameBut d s.heap h' → Q () { s with heap := h', toks := s.toks + k.draws }) : wpAny (model prog w) A (dictSet d u z) Q E s := by
  obtain ⟨h1, h2, o, es, ep, ho, hc, hd, hp⟩ := hm
  have hsz : es.size = xs.length := by rw [← Array.length_toList]; exact (paired_len hp).symm
  unfold dictSet
  refine wpAny_holding (wpAny_bind (ky_hash hu hk ?_))
  unfold dictSetHashed
  refine wpAny_holding (wpAny_bind ?_)
  refine ky_find (s := { s with toks := s.toks + k.draws }) hu hk ho hd (dx_kys (s := s) hp hK) hn (fun hno => ?_) (fun j hj => ?_)
  · refine wpAny_bind (wpAny_rule (wpAny_updateDictKeys (hz := by omega) (s := { s with toks := s.toks + k.draws }) ho hd (h _ ?_ (Heap.SameBut.update ..))))
    unfold putX
    rw [if_neg hno]
    refine ⟨by rw [List.length_append]; exact hl, h2, _, _, _, Heap.get?_update_self _ ho (Obj.isFreed_of_dict (Obj.data_mapDictKeys hd _)), hc.mapDictKeys _, Obj.data_mapDictKeys hd _, ?_⟩
    rw [Array.toList_push]
    exact paired_snoc ⟨rfl, rx, ry⟩ hp
  · refine wpAny_bind (wpAny_rule (wpAny_bind (wpAny_updateDict (s := { s with toks := s.toks + k.draws }) ho hd (wpAny_point (h _ ?_ (Heap.SameBut.update ..))))))
    unfold putX
    rw [if_pos (List.mem_of_getElem? hj)]
    refine ⟨by rw [List.length_map]; exact h1, h2, _, _, _, Heap.get?_update_self _ ho (Obj.isFreed_of_dict (Obj.data_mapDict hd _)), hc.mapDict _, Obj.data_mapDict hd _, ?_⟩
    have := paired_mod (u := z) ry hn hj hp
    obtain ⟨l⟩ := es
    simpa using this
theorem dx_typeIs (hm : DxAt w d xs s.heap) : s.TypeIs (.ref d) "dict" := let ⟨_, _, o, _, _, ho, hc, _⟩ := hm; ⟨o, ho, hc.1⟩
end
/-! ### asked of it -/
section
variable {prog : Program} {w : World} {A : Around} {E : Value → Shared → Prop} {s : Shared} {d : Addr} {k : NestedKey} {u : Value} {xs : List XEn}
/-- what an asking stands on -/
structure DxOn (w : World) (A : Around) (s : Shared) (d : Addr) (xs : List XEn) (k : NestedKey) (u : Value) : Prop where
  rm : A.units + 16 < cLine
  ky : KyIs s.heap k u
  di : DxAt w d xs s.heap
  ks : ∀ x ∈ xs, ∀ v, RelV x.2.1 v → KyIs s.heap x.1 v
  nd : (xs.map (·.1)).Nodup
theorem DxOn.get1 {Q : Option Value → Shared → Prop} (O : DxOn w A s d xs k u) (h : ∀ r, RelO (valX xs k) r → Q r { s with toks := s.toks + k.draws }) : wpAny (model prog w) A.in1 (dictGet d u) Q E s :=
  dx_get (by have := O.rm; show A.units + 1 + 8 < cLine; omega) O.ky O.di O.ks O.nd h
theorem DxOn.sys (O : DxOn w A s d xs k u) : (d == sysModules) = false := O.di.2.1
theorem DxOn.has {Q : Bool → Shared → Prop} (O : DxOn w A s d xs k u) (h : Q (valX xs k).isSome { s with toks := s.toks + k.draws }) : wpAny (model prog w) A (contains (.ref d) u) Q E s := by
  refine wpAny_contains_slot (dx_typeIs O.di) F.slot_dict_contains ?_
  refine call_meetsIn F.slot_dict_contains (dx_typeIs O.di) F.entry_dict_contains (F.args_dict_contains_2 _ _) (S := fun B R z => B = A ∧ z = s ∧ R (.ok (.ret (.bool (valX xs k).isSome))) { s with toks := s.toks + k.draws }) (fun B R z hS => ?_) ⟨rfl, rfl, wpAny_truthy_bool h⟩
  obtain ⟨rfl, rfl, hq⟩ := hS
  show wpAny _ _ (dictGet d u >>= _) _ _ _
  refine wpAny_bind (O.get1 fun r rr => ?_)
  rw [rr.isSome_eq] at hq
  cases r with
  | some v => exact (show wpAny _ _ (ret (.bool true)) _ _ _ from wpAny_pure hq)
  | none => exact (show wpAny _ _ (Builtin.Dict.pendingKey? d u >>= _) _ _ _ from wpAny_bind (wpAny_pendingKey_other O.sys (wpAny_pure hq)))
theorem DxOn.in_ {Q : Value → Shared → Prop} (O : DxOn w A s d xs k u) (h : Q (.bool (valX xs k).isSome) { s with toks := s.toks + k.draws }) : wpAny (model prog w) A (compareOp .In u (.ref d)) Q E s :=
  (show wpAny _ _ (do return .bool (← contains (.ref d) u)) Q E s from wpAny_bind (O.has (wpAny_pure h)))
theorem DxOn.notIn {Q : Value → Shared → Prop} (O : DxOn w A s d xs k u) (h : Q (.bool (!(valX xs k).isSome)) { s with toks := s.toks + k.draws }) : wpAny (model prog w) A (compareOp .NotIn u (.ref d)) Q E s :=
  (show wpAny _ _ (do return .bool (!(← contains (.ref d) u))) Q E s from wpAny_bind (O.has (wpAny_pure h)))
theorem DxOn.item {Q : Value → Shared → Prop} {v : V} (O : DxOn w A s d xs k u) (hv : valX xs k = some v) (h : ∀ r, RelV v r → Q r { s with toks := s.toks + k.draws }) : wpAny (model prog w) A (getItem (.ref d) u) Q E s := by
  have ty := dx_typeIs O.di
  unfold getItem
  refine wpAny_holding (wpAny_bind (wpAny_sequenceKey ty (by decide) (wpAny_bind ?_)))
  refine wpAny_callSpecial?_slot (name := Str.ofString "__getitem__") ty slot_dict_getitem (wpAny_call_entry slot_dict_getitem ty entry_dict_getitem ?_ (args_dict_getitem _ u))
  show wpAny _ _ (dictGet d u >>= _) _ _ s
  refine wpAny_bind (O.get1 fun r rr => ?_)
  rw [hv] at rr
  obtain ⟨x, rfl, rx⟩ := rr.some_of
  exact wpAny_pure ⟨x, rfl, wpAny_pure (h x rx)⟩
theorem DxOn.put {Q : Unit → Shared → Prop} {x y : V} {z : Value} (O : DxOn w A s d xs k u) (hl : xs.length < sizeLine) (rx : RelV x u) (ry : RelV y z) (h : ∀ h', DxAt w d (putX xs k x y) h' → Heap.SameBut d s.heap h' → Q () { s with heap := h', toks := s.toks + k.draws }) :
    wpAny (model prog w) A (setItem (.ref d) u z) Q E s := by
  have ty := dx_typeIs O.di
  unfold setItem
  refine wpAny_holding (wpAny_bind (wpAny_sequenceKey ty (by decide) (wpAny_bind ?_)))
  refine wpAny_callSpecial?_slot (name := Str.ofString "__setitem__") ty slot_dict_setitem (wpAny_call_entry slot_dict_setitem ty entry_dict_setitem ?_ (args_dict_setitem _ u z))
  show wpAny _ _ (Builtin.Dict.notOrdered "__setitem__" ⟨[.ref d, u, z], []⟩ >>= _) _ _ s
  refine wpAny_bind (wpAny_notOrdered_dict ty ?_)
  show wpAny _ _ (dictSet d u z >>= _) _ _ s
  exact wpAny_bind (dx_set (by have := O.rm; show A.units + 1 + 8 < cLine; omega) O.ky O.di O.ks O.nd hl rx ry fun h' a b => wpAny_pure ⟨.none, rfl, wpAny_pure (h h' a b)⟩)
theorem DxOn.got {Q : Value → Shared → Prop} (O : DxOn w A s d xs k u) (h : ∀ r, RelO (valX xs k) r → Q (r.getD .none) { s with toks := s.toks + k.draws }) : wpAny (model prog w) A (call (.builtin "dict.get") [.ref d, u]) Q E s := by
  refine call_meetsIn F.slot_dict_get (dx_typeIs O.di) F.entry_dict_get (F.args_dict_get_2 _ u) (S := fun B R z => B = A ∧ z = s ∧ ∀ r, RelO (valX xs k) r → R (.ok (.ret (r.getD .none))) { s with toks := s.toks + k.draws }) (.of_wp fun B R z hS => ?_) ⟨rfl, rfl, fun r rr => h r rr⟩
  obtain ⟨rfl, rfl, hq⟩ := hS
  show wpAny _ _ (dictGet d u >>= _) _ _ _
  refine wpAny_bind (O.get1 fun r rr => ?_)
  have q := hq r rr
  cases r with
  | some v => exact wpAny_pure ⟨v, rfl, q⟩
  | none => exact (show wpAny _ _ (Builtin.Dict.missed d u >>= _) _ _ _ from wpAny_bind (wpAny_missed_other O.sys (wpAny_pure ⟨.none, rfl, q⟩)))
theorem DxOn.gotOr {Q : Value → Shared → Prop} {x : Value} (O : DxOn w A s d xs k u) (h : ∀ r, RelO (valX xs k) r → Q (r.getD x) { s with toks := s.toks + k.draws }) : wpAny (model prog w) A (call (.builtin "dict.get") [.ref d, u, x]) Q E s := by
  refine call_meetsIn F.slot_dict_get (dx_typeIs O.di) F.entry_dict_get (F.args_dict_get_3 _ u x) (S := fun B R z => B = A ∧ z = s ∧ ∀ r, RelO (valX xs k) r → R (.ok (.ret (r.getD x))) { s with toks := s.toks + k.draws }) (.of_wp fun B R z hS => ?_) ⟨rfl, rfl, fun r rr => h r rr⟩
  obtain ⟨rfl, rfl, hq⟩ := hS
  show wpAny _ _ (dictGet d u >>= _) _ _ _
  refine wpAny_bind (O.get1 fun r rr => ?_)
  have q := hq r rr
  cases r with
  | some v => exact wpAny_pure ⟨v, rfl, q⟩
  | none => exact (show wpAny _ _ (Builtin.Dict.missed d u >>= _) _ _ _ from wpAny_bind (wpAny_missed_other O.sys (wpAny_pure ⟨x, rfl, q⟩)))
end
end PV

/-! Data as values over the hand layer: D (trees; tuples are values), Mp (what may change), readings over both. -/
namespace PV
open PySem L2

/-- a value with all tuples within; lists, dicts, instances by their address -/
inductive D where
  | non | bl (b : Bool) | int (i : Int) | str (s : Str) | tup (l : List D) | ref (a : Addr) | ty (n : String)

mutual
def Rep (K : PySem.W.Frag) (H : Hp) : D → V → Prop
  | .non, v => v = .non
  | .bl b, v => v = .bl b
  | .int i, v => v = .int i
  | .str s, v => v = .str s
  | .tup l, v => ∃ a vs, v = .ref a ∧ SqT K H a vs ∧ Reps K H l vs
  | .ref a, v => v = .ref a
  | .ty n, v => v = .ty n
def Reps (K : PySem.W.Frag) (H : Hp) : List D → List V → Prop
  | [], vs => vs = []
  | d :: ds, vs => ∃ v r, vs = v :: r ∧ Rep K H d v ∧ Reps K H ds r
end

mutual
/-- a thing as a dict's key -/
def nk : D → NestedKey
  | .non => .none
  | .bl b => .num (if b then 1 else 0)
  | .int i => .num i
  | .str z => .text z
  | .tup l => .tup (nks l)
  | .ref _ => .none
  | .ty _ => .none
def nks : List D → List NestedKey
  | [] => []
  | d :: l => nk d :: nks l
end
/-- a dict's keys and values, told and tracked -/
def RepXs (K : PySem.W.Frag) (H : Hp) : List (D × D) → List XEn → Prop
  | [], r => r = []
  | (k, d) :: ds, r => ∃ x y r', r = (nk k, x, y) :: r' ∧ Rep K H k x ∧ Rep K H d y ∧ RepXs K H ds r'

/-- what never goes: tuples, what is locked -/
def Ext (H H' : Hp) : Prop := (∀ a xs, H a = some (.tup xs) → H' a = some (.tup xs)) ∧ (∀ a o u, H a = some (.frz o u) → H' a = some (.frz o u))
theorem Ext.refl (H : Hp) : Ext H H := ⟨fun _ _ h => h, fun _ _ _ h => h⟩
theorem Ext.trans {H H1 H2 : Hp} (a : Ext H H1) (b : Ext H1 H2) : Ext H H2 := ⟨fun c xs h => b.1 c xs (a.1 c xs h), fun c o u h => b.2 c o u (a.2 c o u h)⟩
theorem Ext.new {H : Hp} {p : Addr} {o : HO} (h : H p = none) : Ext H (upd H p o) :=
  ⟨fun a xs e => by rw [upd_ne (ne_of_none e h)]; exact e, fun a ob u e => by rw [upd_ne (ne_of_none e h)]; exact e⟩
theorem Ext.put {H : Hp} {p : Addr} {o u : HO} (h : H p = some u) (h1 : ∀ xs, u ≠ .tup xs) (h2 : ∀ ob v, u ≠ .frz ob v) : Ext H (upd H p o) :=
  ⟨fun a xs e => by rw [upd_ne (fun z => by rw [z, h] at e; exact h1 _ (Option.some.inj e))]; exact e,
   fun a ob v e => by rw [upd_ne (fun z => by rw [z, h] at e; exact h2 _ _ (Option.some.inj e))]; exact e⟩
theorem Ext.sqT {K : PySem.W.Frag} {H H' : Hp} {a : Addr} {xs : List V} (e : Ext H H') (h : SqT K H a xs) : SqT K H' a xs := by
  rcases h with (h | ⟨o, h⟩) | h
  · exact .inl (.inl (e.1 _ _ h))
  · exact .inl (.inr ⟨o, e.2 _ _ _ h⟩)
  · exact .inr h

mutual
theorem Rep.mono {K : PySem.W.Frag} {H H' : Hp} (e : Ext H H') : ∀ {d : D} {v : V}, Rep K H d v → Rep K H' d v
  | .non, _, h => h
  | .bl _, _, h => h
  | .int _, _, h => h
  | .str _, _, h => h
  | .tup l, _, h => by
    obtain ⟨a, vs, e1, e2, e3⟩ := h
    exact ⟨a, vs, e1, e.sqT e2, Reps.mono e e3⟩
  | .ref _, _, h => h
  | .ty _, _, h => h
theorem Reps.mono {K : PySem.W.Frag} {H H' : Hp} (e : Ext H H') : ∀ {ds : List D} {vs : List V}, Reps K H ds vs → Reps K H' ds vs
  | [], _, h => h
  | d :: ds, _, h => by
    obtain ⟨v, r, e1, e2, e3⟩ := h
    exact ⟨v, r, e1, Rep.mono e e2, Reps.mono e e3⟩
end
theorem Reps.length {K : PySem.W.Frag} {H : Hp} : ∀ {ds : List D} {vs : List V}, Reps K H ds vs → ds.length = vs.length
  | [], _, h => by cases h; rfl
  | d :: ds, _, h => by
    obtain ⟨v, r, rfl, _, h3⟩ := h
    simp [Reps.length h3]
theorem Reps.get {K : PySem.W.Frag} {H : Hp} : ∀ {ds : List D} {vs : List V} {i : Nat} {d : D}, Reps K H ds vs → ds[i]? = some d → ∃ v, vs[i]? = some v ∧ Rep K H d v
  | [], _, _, _, _, e => by simp at e
  | d :: ds, _, 0, _, h, e => by
    obtain ⟨v, r, rfl, h2, _⟩ := h
    simp at e; subst e
    exact ⟨v, rfl, h2⟩
  | d :: ds, _, i + 1, _, h, e => by
    obtain ⟨v, r, rfl, _, h3⟩ := h
    simpa using Reps.get h3 (by simpa using e)
theorem Reps.getV {K : PySem.W.Frag} {H : Hp} : ∀ {ds : List D} {vs : List V} {i : Nat} {v : V}, Reps K H ds vs → vs[i]? = some v → ∃ d, ds[i]? = some d ∧ Rep K H d v
  | [], _, _, _, h, e => by cases h; simp at e
  | d :: ds, _, 0, _, h, e => by
    obtain ⟨v, r, rfl, h2, _⟩ := h
    simp at e; subst e
    exact ⟨d, rfl, h2⟩
  | d :: ds, _, i + 1, _, h, e => by
    obtain ⟨v, r, rfl, _, h3⟩ := h
    simpa using Reps.getV h3 (by simpa using e)
theorem Reps.append {K : PySem.W.Frag} {H : Hp} : ∀ {ds es : List D} {vs ws : List V}, Reps K H ds vs → Reps K H es ws → Reps K H (ds ++ es) (vs ++ ws)
  | [], _, _, _, h, q => by cases h; exact q
  | d :: ds, _, _, _, h, q => by
    obtain ⟨v, r, rfl, h2, h3⟩ := h
    exact ⟨v, r ++ _, rfl, h2, Reps.append h3 q⟩
theorem Reps.take {K : PySem.W.Frag} {H : Hp} : ∀ {ds : List D} {vs : List V} (n : Nat), Reps K H ds vs → Reps K H (ds.take n) (vs.take n)
  | _, _, 0, _ => rfl
  | [], _, n + 1, h => by cases h; rfl
  | d :: ds, _, n + 1, h => by
    obtain ⟨v, r, rfl, h2, h3⟩ := h
    exact ⟨v, r.take n, rfl, h2, Reps.take n h3⟩
theorem Reps.drop {K : PySem.W.Frag} {H : Hp} : ∀ {ds : List D} {vs : List V} (n : Nat), Reps K H ds vs → Reps K H (ds.drop n) (vs.drop n)
  | _, _, 0, h => h
  | [], _, n + 1, h => by cases h; rfl
  | d :: ds, _, n + 1, h => by
    obtain ⟨v, r, rfl, _, h3⟩ := h
    exact Reps.drop n h3
theorem Reps.set {K : PySem.W.Frag} {H : Hp} {d : D} {v : V} (q : Rep K H d v) : ∀ {ds : List D} {vs : List V} (i : Nat), Reps K H ds vs → Reps K H (ds.set i d) (vs.set i v)
  | [], _, _, h => by cases h; rfl
  | _ :: ds, _, 0, h => by
    obtain ⟨v, r, rfl, _, h3⟩ := h
    exact ⟨_, r, rfl, q, h3⟩
  | _ :: ds, _, i + 1, h => by
    obtain ⟨v, r, rfl, h2, h3⟩ := h
    exact ⟨v, r.set i _, rfl, h2, Reps.set q i h3⟩
theorem Reps.one {K : PySem.W.Frag} {H : Hp} {d : D} {v : V} (q : Rep K H d v) : Reps K H [d] [v] := ⟨v, [], rfl, q, rfl⟩
theorem Reps.cons {K : PySem.W.Frag} {H : Hp} {d : D} {v : V} {ds : List D} {vs : List V} (q : Rep K H d v) (r : Reps K H ds vs) : Reps K H (d :: ds) (v :: vs) := ⟨v, vs, rfl, q, r⟩
theorem Reps.ints {K : PySem.W.Frag} {H : Hp} : ∀ {ns : List Int} {vs : List V}, Reps K H (ns.map D.int) vs → vs = ns.map V.int
  | [], _, h => h
  | n :: ns, _, h => by
    obtain ⟨v, r, rfl, h2, h3⟩ := h
    have h2' : v = .int n := h2
    rw [h2', Reps.ints h3]; rfl
theorem Reps.ofInts {K : PySem.W.Frag} {H : Hp} : ∀ {ns : List Int}, Reps K H (ns.map D.int) (ns.map V.int)
  | [] => rfl
  | n :: ns => ⟨_, _, rfl, rfl, Reps.ofInts⟩
theorem Reps.strs {K : PySem.W.Frag} {H : Hp} : ∀ {ns : List Str} {vs : List V}, Reps K H (ns.map D.str) vs → vs = ns.map V.str
  | [], _, h => h
  | n :: ns, _, h => by
    obtain ⟨v, r, rfl, h2, h3⟩ := h
    have h2' : v = .str n := h2
    rw [h2', Reps.strs h3]; rfl
theorem Reps.ofStrs {K : PySem.W.Frag} {H : Hp} : ∀ {ns : List Str}, Reps K H (ns.map D.str) (ns.map V.str)
  | [] => rfl
  | n :: ns => ⟨_, _, rfl, rfl, Reps.ofStrs⟩
theorem Reps.bls {K : PySem.W.Frag} {H : Hp} : ∀ {ns : List Bool} {vs : List V}, Reps K H (ns.map D.bl) vs → vs = ns.map V.bl
  | [], _, h => h
  | n :: ns, _, h => by
    obtain ⟨v, r, rfl, h2, h3⟩ := h
    have h2' : v = .bl n := h2
    rw [h2', Reps.bls h3]; rfl
theorem Reps.reverse {K : PySem.W.Frag} {H : Hp} : ∀ {ds : List D} {vs : List V}, Reps K H ds vs → Reps K H ds.reverse vs.reverse
  | [], _, h => by cases h; rfl
  | d :: ds, _, h => by
    obtain ⟨v, r, rfl, h2, h3⟩ := h
    rw [List.reverse_cons, List.reverse_cons]
    exact Reps.append (Reps.reverse h3) (Reps.one h2)
theorem Reps.dropLast {K : PySem.W.Frag} {H : Hp} {ds : List D} {vs : List V} (h : Reps K H ds vs) : Reps K H ds.dropLast vs.dropLast := by
  rw [List.dropLast_eq_take, List.dropLast_eq_take, h.length]
  exact h.take _
theorem Reps.rep {K : PySem.W.Frag} {H : Hp} {ds : List D} {vs : List V} (h : Reps K H ds vs) : ∀ k : Nat, Reps K H (List.replicate k ds).flatten (List.replicate k vs).flatten
  | 0 => rfl
  | k + 1 => by
    rw [List.replicate_succ, List.replicate_succ, List.flatten_cons, List.flatten_cons]
    exact Reps.append h (Reps.rep h k)

/-- what may change, by its address -/
inductive O where
  | lst (l : List D)
  /-- a list that is read alone -/
  | rol (l : List D)
  | dK (kvs : List (Key × D))
  /-- a dict that is locked while it is walked -/
  | rdK (kvs : List (Key × D))
  | dT (kvs : List (List Key × D))
  /-- a dict by keys of any kind -/
  | dD (kvs : List (D × D))
  | ins (C : String) (fs : List (Str × D))
  /-- an exception's own dict -/
  | xd (fs : List (Str × D))
  /-- an exception: its class, its own dict -/
  | exc (C : String) (d : Option Addr)
/-- f: what may change; kl: lists of the module's own -/
structure Mp where
  f : Addr → Option O
  kl : Addr → Option (List D)
instance : CoeFun Mp (fun _ => Addr → Option O) := ⟨Mp.f⟩
def mset (m : Mp) (a : Addr) (o : O) : Mp := { m with f := fun b => if b = a then some o else m.f b }
theorem mset_same {m : Mp} {a : Addr} {o : O} : mset m a o a = some o := by unfold mset; dsimp only; rw [if_pos rfl]
theorem mset_ne {m : Mp} {a b : Addr} {o : O} (h : b ≠ a) : mset m a o b = m b := by unfold mset; dsimp only; rw [if_neg h]
theorem Mp.ext {m m' : Mp} (h : ∀ a, m a = m' a) (k : m.kl = m'.kl) : m = m' := by
  cases m; cases m'
  have : _ = _ := funext h
  dsimp only at this k
  subst this k
  rfl
theorem mset_mset {m : Mp} {a : Addr} {o u : O} : mset (mset m a o) a u = mset m a u :=
  Mp.ext (fun b => by unfold mset; dsimp only; split <;> rfl) rfl
theorem mset_comm {m : Mp} {a b : Addr} {o u : O} (h : a ≠ b) : mset (mset m a o) b u = mset (mset m b u) a o := by
  refine Mp.ext (fun c => ?_) rfl
  unfold mset
  dsimp only
  by_cases h1 : c = a
  · rw [if_neg (by rw [h1]; exact h), if_pos h1, if_pos h1]
  · by_cases h2 : c = b
    · rw [if_pos h2, if_neg h1, if_pos h2]
    · rw [if_neg h2, if_neg h1, if_neg h1, if_neg h2]
theorem mset_id {m : Mp} {a : Addr} {o : O} (h : m a = some o) : mset m a o = m :=
  Mp.ext (fun b => by
    unfold mset; dsimp only
    by_cases e : b = a
    · rw [if_pos e, e]; exact h.symm
    · rw [if_neg e]) rfl
theorem ne_none {m : Mp} {a b : Addr} {o : O} (h : m a = some o) (h' : m b = none) : a ≠ b := by
  intro e; subst e; rw [h] at h'; cases h'
/-- less is known -/
def Le (m m' : Mp) : Prop := m.kl = m'.kl ∧ ∀ a o, m a = some o → m' a = some o
theorem Le.refl (m : Mp) : Le m m := ⟨rfl, fun _ _ h => h⟩
theorem Le.trans {a b c : Mp} (h : Le a b) (h' : Le b c) : Le a c := ⟨h.1.trans h'.1, fun p o q => h'.2 p o (h.2 p o q)⟩
theorem Le.gone {m m' : Mp} (h : Le m m') {a : Addr} (e : m' a = none) : m a = none := by
  cases q : m a with
  | none => rfl
  | some o => rw [h.2 a o q] at e; cases e
theorem Le.new {m m' : Mp} (h : Le m m') {a : Addr} {o : O} (e : m a = none) : Le m (mset m' a o) := ⟨h.1, fun b u q => by
  rw [mset_ne (ne_none q e)]
  exact h.2 b u q⟩
theorem Le.set {m m' : Mp} (h : Le m m') (a : Addr) (o : O) : Le (mset m a o) (mset m' a o) := ⟨h.1, fun b u q => by
  by_cases e : b = a
  · subst e; rw [mset_same] at q ⊢; exact q
  · rw [mset_ne e] at q ⊢; exact h.2 b u q⟩
/-- a list to be read -/
def RL (m : Mp) (a : Addr) (l : List D) : Prop := m a = some (.lst l) ∨ m a = some (.rol l) ∨ m.kl a = some l
theorem RL.of {m : Mp} {a : Addr} {l : List D} (h : m a = some (.lst l)) : RL m a l := .inl h
theorem RL.le {m m' : Mp} {a : Addr} {l : List D} (h : RL m a l) (e : Le m m') : RL m' a l := by
  rcases h with h | h | h
  · exact .inl (e.2 _ _ h)
  · exact .inr (.inl (e.2 _ _ h))
  · exact .inr (.inr (e.1 ▸ h))

theorem RepXs.mono {K : PySem.W.Frag} {H H' : Hp} (e : Ext H H') : ∀ {ds : List (D × D)} {xs : List XEn}, RepXs K H ds xs → RepXs K H' ds xs
  | [], _, h => h
  | (k, d) :: ds, _, h => by
    obtain ⟨x, y, r, e1, e2, e3, e4⟩ := h
    exact ⟨x, y, r, e1, e2.mono e, e3.mono e, RepXs.mono e e4⟩
def RepK {κ : Type} (K : PySem.W.Frag) (H : Hp) : List (κ × D) → List (κ × V) → Prop
  | [], r => r = []
  | (k, d) :: ds, r => ∃ v r', r = (k, v) :: r' ∧ Rep K H d v ∧ RepK K H ds r'
theorem RepK.mono {κ : Type} {K : PySem.W.Frag} {H H' : Hp} (e : Ext H H') : ∀ {ds : List (κ × D)} {vs : List (κ × V)}, RepK K H ds vs → RepK K H' ds vs
  | [], _, h => h
  | (k, d) :: ds, _, h => by
    obtain ⟨v, r, e1, e2, e3⟩ := h
    exact ⟨v, r, e1, e2.mono e, RepK.mono e e3⟩

theorem RepK.length {κ : Type} {K : PySem.W.Frag} {H : Hp} : ∀ {ds : List (κ × D)} {vs : List (κ × V)}, RepK K H ds vs → ds.length = vs.length
  | [], _, h => by cases h; rfl
  | (k, d) :: ds, _, h => by
    obtain ⟨v, r, rfl, _, h3⟩ := h
    simp [RepK.length h3]
theorem RepK.append {κ : Type} {K : PySem.W.Frag} {H : Hp} : ∀ {ds es : List (κ × D)} {vs ws : List (κ × V)}, RepK K H ds vs → RepK K H es ws → RepK K H (ds ++ es) (vs ++ ws)
  | [], _, _, _, h, q => by cases h; exact q
  | (k, d) :: ds, _, _, _, h, q => by
    obtain ⟨v, r, rfl, h2, h3⟩ := h
    exact ⟨v, r ++ _, rfl, h2, RepK.append h3 q⟩
theorem RepK.keys {κ : Type} {K : PySem.W.Frag} {H : Hp} : ∀ {ds : List (κ × D)} {vs : List (κ × V)}, RepK K H ds vs → ds.map (·.1) = vs.map (·.1)
  | [], _, h => by cases h; rfl
  | (k, d) :: ds, _, h => by
    obtain ⟨v, r, rfl, _, h3⟩ := h
    simp [RepK.keys h3]
theorem RepK.vals {κ : Type} {K : PySem.W.Frag} {H : Hp} : ∀ {ds : List (κ × D)} {vs : List (κ × V)}, RepK K H ds vs → Reps K H (ds.map (·.2)) (vs.map (·.2))
  | [], _, h => by cases h; rfl
  | (k, d) :: ds, _, h => by
    obtain ⟨v, r, rfl, h2, h3⟩ := h
    exact ⟨v, r.map (·.2), rfl, h2, RepK.vals h3⟩
/-- what a dict holds at a key -/
def getD {κ : Type} [DecidableEq κ] (kvs : List (κ × D)) (k : κ) : Option D := (kvs.find? fun kv => decide (kv.1 = k)).map (·.2)
def putD {κ : Type} [DecidableEq κ] (kvs : List (κ × D)) (k : κ) (v : D) : List (κ × D) :=
  if kvs.any (fun kv => decide (kv.1 = k)) then kvs.map (fun kv => if kv.1 = k then (kv.1, v) else kv) else kvs ++ [(k, v)]
theorem getD_nil {κ : Type} [DecidableEq κ] {k : κ} : getD ([] : List (κ × D)) k = none := rfl
theorem getD_pos {κ : Type} [DecidableEq κ] {p : κ × D} {r : List (κ × D)} {k : κ} (e : p.1 = k) : getD (p :: r) k = some p.2 := by simp [getD, List.find?_cons, e]
theorem getD_neg {κ : Type} [DecidableEq κ] {p : κ × D} {r : List (κ × D)} {k : κ} (e : ¬ p.1 = k) : getD (p :: r) k = getD r k := by simp [getD, List.find?_cons, e]
section
variable {κ : Type} [DecidableEq κ] {K : PySem.W.Frag} {H : Hp}
theorem RepK.val (k : κ) : ∀ {ds : List (κ × D)} {vs : List (κ × V)}, RepK K H ds vs → (getD ds k = none ∧ L2.valV vs k = none) ∨ ∃ d v, getD ds k = some d ∧ L2.valV vs k = some v ∧ Rep K H d v
  | [], _, h => by cases h; exact .inl ⟨rfl, rfl⟩
  | (k', d) :: ds, _, h => by
    obtain ⟨v, r, rfl, h2, h3⟩ := h
    by_cases e : k' = k
    · exact .inr ⟨d, v, getD_pos e, L2.valV_pos e, h2⟩
    · rw [getD_neg e, L2.valV_neg e]
      exact RepK.val k h3
theorem RepK.some {k : κ} {ds : List (κ × D)} {vs : List (κ × V)} {d : D} (h : RepK K H ds vs) (e : getD ds k = some d) : ∃ v, L2.valV vs k = some v ∧ Rep K H d v := by
  rcases h.val k with ⟨h1, _⟩ | ⟨d', v, h1, h2, h3⟩
  · rw [h1] at e; cases e
  · rw [h1] at e; cases e; exact ⟨v, h2, h3⟩
theorem RepK.none {k : κ} {ds : List (κ × D)} {vs : List (κ × V)} (h : RepK K H ds vs) (e : getD ds k = none) : L2.valV vs k = none := by
  rcases h.val k with ⟨_, h1⟩ | ⟨d', v, h1, h2, h3⟩
  · exact h1
  · rw [h1] at e; cases e
theorem RepK.repl {k : κ} {d : D} {v : V} (q : Rep K H d v) : ∀ {ds : List (κ × D)} {vs : List (κ × V)}, RepK K H ds vs →
    RepK K H (ds.map fun kv => if kv.1 = k then (kv.1, d) else kv) (vs.map fun kv => if kv.1 = k then (kv.1, v) else kv)
  | [], _, h => by cases h; rfl
  | (k', d') :: ds, _, h => by
    obtain ⟨v', r, rfl, h2, h3⟩ := h
    have ih := RepK.repl (k := k) q h3
    by_cases e : k' = k
    · simp only [List.map_cons, if_pos e]
      exact ⟨v, _, rfl, q, ih⟩
    · simp only [List.map_cons, if_neg e]
      exact ⟨v', _, rfl, h2, ih⟩
theorem RepK.any {ds : List (κ × D)} {vs : List (κ × V)} (k : κ) (h : RepK K H ds vs) : (ds.any fun kv => decide (kv.1 = k)) = vs.any fun kv => decide (kv.1 = k) := by
  have e := h.keys
  have e1 : ∀ l : List (κ × D), (l.any fun kv => decide (kv.1 = k)) = (l.map (·.1)).any fun y => decide (y = k) := fun l => by rw [List.any_map]; rfl
  have e2 : ∀ l : List (κ × V), (l.any fun kv => decide (kv.1 = k)) = (l.map (·.1)).any fun y => decide (y = k) := fun l => by rw [List.any_map]; rfl
  rw [e1, e2, e]
theorem RepK.put {k : κ} {d : D} {v : V} {ds : List (κ × D)} {vs : List (κ × V)} (h : RepK K H ds vs) (q : Rep K H d v) : RepK K H (putD ds k d) (L2.putK vs k v) := by
  unfold putD L2.putK
  rw [h.any k]
  split
  · exact h.repl q
  · exact h.append ⟨v, [], rfl, q, rfl⟩
end
def keyD : Key → D
  | .inl i => .int i
  | .inr z => .str z
theorem rep_key {K : PySem.W.Frag} {H : Hp} {k : Key} {v : V} (h : Rep K H (keyD k) v) : v = kV k := by
  cases k <;> exact h
theorem key_rep {K : PySem.W.Frag} {H : Hp} (k : Key) : Rep K H (keyD k) (kV k) := by
  cases k <;> rfl

/-- the classes of the program by their names -/
structure Cl where
  f : String → Option Addr
  w : World
instance : CoeFun Cl (fun _ => String → Option Addr) := ⟨Cl.f⟩
/-- a list of the module's own -/
def SqK (K : PySem.W.Frag) (a : Addr) (xs : List V) : Prop :=
  ∃ (o : Obj) (its : Array Value) (n : Nat), K.lookup a = some o ∧ o.cls = .type "list" ∧ o.dict = none ∧ o.data = .seq its n ∧ its.size ≤ sizeLine ∧ Vals xs its.toList
/-- the program's own exception classes -/
def eNames : List String := ["VaultError", "NoThing", "NoPaper", "BadThing", "Clash", "NotOn", "NoState", "NoName", "NoTable", "NoColumn", "NoRow", "NoQuestion", "NoPlan", "NoStep", "NotSo", "NoCommand"]
/-- an exception's object, tracked -/
def exoH (cls : Value) (d : Option Addr) (a : Addr) : HO := .ext fun h => ∃ oe : Obj, h.get? a = some oe ∧ Zc cls d oe ∧ ∃ vs, oe.data = .fields vs
def RepO (K : PySem.W.Frag) (cl : Cl) (H : Hp) (a : Addr) : O → Prop
  | .lst l => ∃ vs, H a = some (.lst vs) ∧ Reps K H l vs
  | .rol l => ∃ o vs, H a = some (.frz o (.lst vs)) ∧ Reps K H l vs
  | .dK kvs => ∃ kws, H a = some (.dK kws) ∧ RepK K H kvs kws
  | .dT kvs => ∃ kws, H a = some (.dT kws) ∧ RepK K H kvs kws
  | .rdK kvs => ∃ o kws, H a = some (.frz o (.dK kws)) ∧ RepK K H kvs kws
  | .dD kvs => ∃ xs, H a = some (dxH cl.w a xs) ∧ RepXs K H kvs xs
  | .ins C fs => ∃ Ca dx fvs, (C ∉ eNames ∧ cl C = some Ca) ∧ H a = some (.ins Ca dx fvs) ∧ RepK K H fs fvs
  | .xd fs => ∃ fvs, H a = some (.xd fvs) ∧ RepK K H fs fvs
  | .exc C d => ∃ Ca, C ∈ eNames ∧ cl C = some Ca ∧ H a = some (exoH (.ref Ca) d a)
theorem RepO.mono {K : PySem.W.Frag} {cl : Cl} {H H' : Hp} {a : Addr} (e : Ext H H') (ha : H' a = H a) : ∀ {o : O}, RepO K cl H a o → RepO K cl H' a o
  | .lst l, ⟨vs, h1, h2⟩ => ⟨vs, ha.trans h1, h2.mono e⟩
  | .rol l, ⟨o, vs, h1, h2⟩ => ⟨o, vs, ha.trans h1, h2.mono e⟩
  | .dK _, ⟨vs, h1, h2⟩ => ⟨vs, ha.trans h1, h2.mono e⟩
  | .dT _, ⟨vs, h1, h2⟩ => ⟨vs, ha.trans h1, h2.mono e⟩
  | .rdK _, ⟨o, vs, h1, h2⟩ => ⟨o, vs, ha.trans h1, h2.mono e⟩
  | .dD _, ⟨xs, h1, h2⟩ => ⟨xs, ha.trans h1, h2.mono e⟩
  | .ins _ _, ⟨Ca, dx, vs, h0, h1, h2⟩ => ⟨Ca, dx, vs, h0, ha.trans h1, h2.mono e⟩
  | .xd _, ⟨vs, h1, h2⟩ => ⟨vs, ha.trans h1, h2.mono e⟩
  | .exc _ _, ⟨Ca, hn, h0, h1⟩ => ⟨Ca, hn, h0, ha.trans h1⟩

def Ab (K : PySem.W.Frag) (cl : Cl) (H : Hp) (m : Mp) : Prop := (∀ a o, m a = some o → RepO K cl H a o) ∧ ∀ a l, m.kl a = some l → ∃ vs, SqK K a vs ∧ ∀ H, Reps K H l vs
theorem Ab.rl {K : PySem.W.Frag} {cl : Cl} {H : Hp} {m : Mp} {a : Addr} {l : List D} (h : Ab K cl H m) (q : RL m a l) : ∃ vs, SqL K H a vs ∧ Reps K H l vs := by
  rcases q with q | q | q
  · obtain ⟨vs, h1, h2⟩ := h.1 a _ q
    exact ⟨vs, SqL.of h1, h2⟩
  · obtain ⟨o, vs, h1, h2⟩ := h.1 a _ q
    exact ⟨vs, .inl (.inr ⟨o, h1⟩), h2⟩
  · obtain ⟨vs, h1, h2⟩ := h.2 a l q
    exact ⟨vs, .inr h1, h2 H⟩
section
variable {K : PySem.W.Frag} {cl : Cl} {H H' : Hp} {m m' : Mp} {p : Addr} {o o' : O} {u : HO}
theorem Ab.le (h : Ab K cl H m') (l : Le m m') : Ab K cl H m := ⟨fun a o e => h.1 a o (l.2 a o e), fun a x e => h.2 a x (l.1 ▸ e)⟩
theorem Ab.same (h : Ab K cl H m) (e : Ext H H') (k : ∀ a o, m a = some o → H' a = H a) : Ab K cl H' m := ⟨fun a o q => (h.1 a o q).mono e (k a o q), h.2⟩
theorem Ab.there (h : Ab K cl H m) (q : m p = some o) : ∃ u, H p = some u := by
  have r := h.1 p o q
  cases o with
  | lst l => obtain ⟨vs, h1, _⟩ := r; exact ⟨_, h1⟩
  | rol l => obtain ⟨_, vs, h1, _⟩ := r; exact ⟨_, h1⟩
  | dK l => obtain ⟨vs, h1, _⟩ := r; exact ⟨_, h1⟩
  | dT l => obtain ⟨vs, h1, _⟩ := r; exact ⟨_, h1⟩
  | rdK l => obtain ⟨_, vs, h1, _⟩ := r; exact ⟨_, h1⟩
  | dD l => obtain ⟨vs, h1, _⟩ := r; exact ⟨_, h1⟩
  | ins C fs => obtain ⟨_, _, vs, _, h1, _⟩ := r; exact ⟨_, h1⟩
  | xd fs => obtain ⟨vs, h1, _⟩ := r; exact ⟨_, h1⟩
  | exc C d => obtain ⟨_, _, _, h1⟩ := r; exact ⟨_, h1⟩
theorem Ab.free (h : Ab K cl H m) (n : H p = none) : m p = none := by
  cases q : m p with
  | none => rfl
  | some o => obtain ⟨u, e⟩ := h.there q; rw [n] at e; cases e
/-- a new thing that is not told of (a tuple) -/
theorem Ab.hid (h : Ab K cl H m) (n : H p = none) : Ab K cl (upd H p u) m := h.same (Ext.new n) fun a o q => by
  obtain ⟨v, e⟩ := h.there q
  exact upd_ne (ne_of_none e n)
theorem Ab.new (h : Ab K cl H m) (n : H p = none) (r : RepO K cl (upd H p u) p o) : Ab K cl (upd H p u) (mset m p o) := ⟨fun a x q => by
  by_cases e : a = p
  · subst e; rw [mset_same] at q; cases q; exact r
  · rw [mset_ne e] at q; exact (h.hid n).1 a x q, h.2⟩
theorem Ab.put (h : Ab K cl H m) (e : Ext H (upd H p u)) (r : RepO K cl (upd H p u) p o) : Ab K cl (upd H p u) (mset m p o) := ⟨fun a x q => by
  by_cases z : a = p
  · subst z; rw [mset_same] at q; cases q; exact r
  · rw [mset_ne z] at q; exact (h.1 a x q).mono e (upd_ne z), h.2⟩
theorem ext_lst {xs : List V} (h : H p = some (.lst xs)) : Ext H (upd H p u) := Ext.put h (fun _ z => by cases z) (fun _ _ z => by cases z)
theorem ext_dK {xs : List (Key × V)} (h : H p = some (.dK xs)) : Ext H (upd H p u) := Ext.put h (fun _ z => by cases z) (fun _ _ z => by cases z)
theorem ext_dT {xs : List (List Key × V)} (h : H p = some (.dT xs)) : Ext H (upd H p u) := Ext.put h (fun _ z => by cases z) (fun _ _ z => by cases z)
theorem ext_ins {C dx : Addr} {fs : List (Str × V)} (h : H p = some (.ins C dx fs)) : Ext H (upd H p u) := Ext.put h (fun _ z => by cases z) (fun _ _ z => by cases z)
end

/-! ### readings -/
abbrev S3 := List (Option D)
/-- an exception: its class, its own dict -/
structure Xc where
  cls : String
  dct : Option Addr
abbrev K3 := D → Mp → Prop
abbrev X3 := Xc → Mp → Prop
abbrev TE3 := S3 → Mp → K3 → X3 → Prop
abbrev TT3 := S3 → Mp → (Bool → Mp → Prop) → X3 → Prop
abbrev TA3 := S3 → Mp → (List D → Mp → Prop) → X3 → Prop
structure N3 where
  nx : S3 → Mp → Prop
  rt : K3
  bk : S3 → Mp → Prop := fun _ _ => False
  ct : S3 → Mp → Prop := fun _ _ => False
  ex : S3 → X3
abbrev TS3 := N3 → S3 → Mp → Prop

def RepS (K : PySem.W.Frag) (H : Hp) (s : S3) (σ : L2.St) : Prop := s.length = σ.length ∧ ∀ (i : Nat) (d : D), s[i]? = some (some d) → ∃ v, σ[i]? = some (some v) ∧ Rep K H d v
theorem RepS.mono {K : PySem.W.Frag} {H H' : Hp} {s : S3} {σ : L2.St} (e : Ext H H') (h : RepS K H s σ) : RepS K H' s σ := ⟨h.1, fun i d q => let ⟨v, h1, h2⟩ := h.2 i d q; ⟨v, h1, h2.mono e⟩⟩
theorem RepS.set {K : PySem.W.Frag} {H : Hp} {s : S3} {σ : L2.St} {d : D} {v : V} (h : RepS K H s σ) (r : Rep K H d v) (i : Nat) : RepS K H (s.set i (some d)) (σ.set i (some v)) := by
  refine ⟨by rw [List.length_set, List.length_set, h.1], fun j e q => ?_⟩
  by_cases hj : i = j
  · subst hj
    by_cases hl : i < s.length
    · rw [List.getElem?_set_self hl] at q
      cases q
      exact ⟨v, List.getElem?_set_self (h.1 ▸ hl), r⟩
    · rw [List.getElem?_eq_none (by simpa using hl)] at q; cases q
  · rw [List.getElem?_set_ne hj] at q
    obtain ⟨w, h1, h2⟩ := h.2 j e q
    exact ⟨w, by rw [List.getElem?_set_ne hj]; exact h1, h2⟩
theorem RepS.wipe {K : PySem.W.Frag} {H : Hp} {s : S3} {σ : L2.St} (h : RepS K H s σ) (i : Nat) : RepS K H (s.set i none) (σ.set i none) := by
  refine ⟨by rw [List.length_set, List.length_set, h.1], fun j e q => ?_⟩
  by_cases hj : i = j
  · subst hj
    by_cases hl : i < s.length
    · rw [List.getElem?_set_self hl] at q; cases q
    · rw [List.getElem?_eq_none (by simpa using hl)] at q; cases q
  · rw [List.getElem?_set_ne hj] at q
    obtain ⟨w, h1, h2⟩ := h.2 j e q
    exact ⟨w, by rw [List.getElem?_set_ne hj]; exact h1, h2⟩

/-- how an exception lies in the heap: its class's address, its own dict -/
def RepX (K : PySem.W.Frag) (cl : Cl) (H : Hp) (x : Xc) (c : Value) (dd : Option Addr) : Prop :=
  ∃ C, x.cls ∈ eNames ∧ cl x.cls = some C ∧ c = .ref C ∧ dd = x.dct

section
variable (K : PySem.W.Frag) (cl : Cl) (W : WX)
def cE (H : Hp) (Q : VK) : K3 := fun d m => ∀ v H', Rep K H' d v → Ab K cl H' m → Ext H H' → Q v H'
def cT (H : Hp) (Q : Bool → Hp → Prop) : Bool → Mp → Prop := fun b m => ∀ H', Ab K cl H' m → Ext H H' → Q b H'
def cA (H : Hp) (Q : List V → Hp → Prop) : List D → Mp → Prop := fun ds m => ∀ vs H', Reps K H' ds vs → Ab K cl H' m → Ext H H' → Q vs H'
def cX (H : Hp) (σ : L2.St) : X3 := fun x m => ∀ c dd H', RepX K cl H' x c dd → Ab K cl H' m → Ext H H' → W c dd σ H'
def cS (H : Hp) (N : L2.St → Hp → Prop) : S3 → Mp → Prop := fun s m => ∀ σ H', RepS K H' s σ → Ab K cl H' m → Ext H H' → N σ H'
def cN (H : Hp) (D : Ends) : N3 := ⟨cS K cl H D.nx, cE K cl H D.rt, cS K cl H D.bk, cS K cl H D.ct, fun s x m => ∀ σ c dd H', RepS K H' s σ → RepX K cl H' x c dd → Ab K cl H' m → Ext H H' → W c dd σ H'⟩
def upE (T : TE3) : TE := fun σ H Q => ∃ s m, RepS K H s σ ∧ Ab K cl H m ∧ T s m (cE K cl H Q) (cX K cl W H σ)
def upT (T : TT3) : TT := fun σ H Q => ∃ s m, RepS K H s σ ∧ Ab K cl H m ∧ T s m (cT K cl H Q) (cX K cl W H σ)
def upA (T : TA3) : TA := fun σ H Q => ∃ s m, RepS K H s σ ∧ Ab K cl H m ∧ T s m (cA K cl H Q) (cX K cl W H σ)
def upS (T : TS3) : TS := fun D σ H => ∃ s m, RepS K H s σ ∧ Ab K cl H m ∧ T (cN K cl W H D) s m
end

def MonoE (T : TE3) : Prop := ∀ s m k k' x x', (∀ d m, k d m → k' d m) → (∀ e m, x e m → x' e m) → T s m k x → T s m k' x'
def MonoT (T : TT3) : Prop := ∀ s m k k' x x', (∀ d m, k d m → k' d m) → (∀ e m, x e m → x' e m) → T s m k x → T s m k' x'
def MonoA (T : TA3) : Prop := ∀ s m k k' x x', (∀ d m, k d m → k' d m) → (∀ e m, x e m → x' e m) → T s m k x → T s m k' x'
structure N3.Le (D D' : N3) : Prop where
  nx : ∀ s m, D.nx s m → D'.nx s m
  rt : ∀ d m, D.rt d m → D'.rt d m
  bk : ∀ s m, D.bk s m → D'.bk s m
  ct : ∀ s m, D.ct s m → D'.ct s m
  ex : ∀ s x m, D.ex s x m → D'.ex s x m
def MonoS (T : TS3) : Prop := ∀ s m D D', N3.Le D D' → T D s m → T D' s m
structure QE (X : Cx) (cl : Cl) (W : WX) (e : Expr) (T : TE3) : Prop where
  mono : MonoE T
  run : PE X e (upE X.K cl W T)
structure QT (X : Cx) (cl : Cl) (W : WX) (e : Expr) (T : TT3) : Prop where
  mono : MonoT T
  run : PT X e (upT X.K cl W T)
structure QW (X : Cx) (cl : Cl) (W : WX) (e : Expr) (T : TT3) : Prop where
  mono : MonoT T
  run : PW X e (upT X.K cl W T)
structure QA (X : Cx) (cl : Cl) (W : WX) (es : List Expr) (T : TA3) : Prop where
  mono : MonoA T
  run : PA X es (upA X.K cl W T)
structure QS (X : Cx) (cl : Cl) (W : WX) (st : Stmt) (T : TS3) : Prop where
  mono : MonoS T
  run : PS X st (upS X.K cl W T)
structure QB (X : Cx) (cl : Cl) (W : WX) (st : List Stmt) (T : TS3) : Prop where
  mono : MonoS T
  run : PSs X st (upS X.K cl W T)
theorem PE.imp {X : Cx} {e : Expr} {t t' : TE} (h : PE X e t) (i : ∀ σ H Q, t' σ H Q → t σ H Q) : PE X e t' := ⟨fun pins s σ H Q I q => h.run pins s σ H Q I (i σ H Q q)⟩
theorem PT.imp {X : Cx} {e : Expr} {t t' : TT} (h : PT X e t) (i : ∀ σ H Q, t' σ H Q → t σ H Q) : PT X e t' := ⟨fun pins s σ H Q I q => h.run pins s σ H Q I (i σ H Q q)⟩
theorem PW.imp {X : Cx} {e : Expr} {t t' : TT} (h : PW X e t) (i : ∀ σ H Q, t' σ H Q → t σ H Q) : PW X e t' := ⟨fun w pins s σ H Q I q => h.run w pins s σ H Q I (i σ H Q q)⟩
theorem PA.imp {X : Cx} {es : List Expr} {t t' : TA} (h : PA X es t) (i : ∀ σ H Q, t' σ H Q → t σ H Q) : PA X es t' := ⟨fun p pins s σ H Q I q => h.run p pins s σ H Q I (i σ H Q q)⟩
theorem PS.imp {X : Cx} {st : Stmt} {t t' : TS} (h : PS X st t) (i : ∀ D σ H, t' D σ H → t D σ H) : PS X st t' := ⟨fun pins s σ H D I q => h.run pins s σ H D I (i D σ H q)⟩
theorem PSs.imp {X : Cx} {st : List Stmt} {t t' : TS} (h : PSs X st t) (i : ∀ D σ H, t' D σ H → t D σ H) : PSs X st t' := ⟨fun pins s σ H D I q => h.run pins s σ H D I (i D σ H q)⟩
section
variable {K : PySem.W.Frag} {cl : Cl} {W : WX} {H H1 : Hp} {σ : L2.St}
theorem cX_ext (e : Ext H H1) {x : Xc} {m : Mp} (h : cX K cl W H σ x m) : cX K cl W H1 σ x m := fun c dd H' r a z => h c dd H' r a (e.trans z)
theorem cE_ext (e : Ext H H1) {Q : VK} {d : D} {m : Mp} (h : cE K cl H Q d m) : cE K cl H1 Q d m := fun v H' r a z => h v H' r a (e.trans z)
theorem cT_ext (e : Ext H H1) {Q : Bool → Hp → Prop} {d : Bool} {m : Mp} (h : cT K cl H Q d m) : cT K cl H1 Q d m := fun H' a z => h H' a (e.trans z)
theorem cA_ext (e : Ext H H1) {Q : List V → Hp → Prop} {d : List D} {m : Mp} (h : cA K cl H Q d m) : cA K cl H1 Q d m := fun v H' r a z => h v H' r a (e.trans z)
theorem cS_ext (e : Ext H H1) {N : L2.St → Hp → Prop} {s : S3} {m : Mp} (h : cS K cl H N s m) : cS K cl H1 N s m := fun v H' r a z => h v H' r a (e.trans z)
theorem cN_ext (e : Ext H H1) {D : Ends} : N3.Le (cN K cl W H D) (cN K cl W H1 D) :=
  ⟨fun _ _ h => cS_ext e h, fun _ _ h => cE_ext e h, fun _ _ h => cS_ext e h, fun _ _ h => cS_ext e h, fun s x m h σ c dd H' a b d z => h σ c dd H' a b d (e.trans z)⟩
theorem cE_le {Q : VK} {d : D} {m m' : Mp} (l : Le m m') (h : cE K cl H Q d m) : cE K cl H Q d m' := fun v H' r a z => h v H' r (a.le l) z
theorem cX_le {x : Xc} {m m' : Mp} (l : Le m m') (h : cX K cl W H σ x m) : cX K cl W H σ x m' := fun c dd H' r a z => h c dd H' r (a.le l) z
end
end PV

/-! Expressions. -/
namespace PV
open PySem L2 PyProof.Rows
section
variable {X : Cx} {cl : Cl} {W : WX} {a b c : Expr} {A B C : TE3} {pos : Pos}

/-! ### names, constants -/
def eVar (i : Nat) : TE3 := fun s m k _ => ∃ d, s[i]? = some (some d) ∧ k d m
def eLit (d : D) : TE3 := fun _ m k _ => k d m
theorem q_var {i : Nat} {x : Str} (hN : X.N[i]? = some x) (hv : Vis X.env.scope x) (hd : (x == ("__debug__" : Str)) = false) (hcd : (x == ("__classdict__" : Str)) = false) : QE X cl W (.Name x pos) (eVar i) :=
  ⟨fun s m k k' x x' hk hx ⟨d, h1, h2⟩ => ⟨d, h1, hk _ _ h2⟩,
   PE.imp (pe_var hN hv hd hcd) fun σ H Q ⟨s, m, hs, hm, d, h1, h2⟩ => by
    obtain ⟨v, e, r⟩ := hs.2 _ _ h1
    exact ⟨v, e, h2 v H r hm (Ext.refl H)⟩⟩
theorem mono_lit {d : D} : MonoE (eLit d) := fun s m k k' x x' hk hx h => hk _ _ h
theorem lit_of {e : Expr} {d : D} {v : V} (h : PE X e (tC v)) (r : ∀ H, Rep X.K H d v) : QE X cl W e (eLit d) :=
  ⟨mono_lit, PE.imp h fun σ H Q ⟨s, m, hs, hm, h1⟩ => h1 v H (r H) hm (Ext.refl H)⟩
theorem q_int {i j} : QE X cl W (.Constant (.int i) j pos) (eLit (.int i)) := lit_of pe_int fun _ => rfl
theorem q_bl {i j} : QE X cl W (.Constant (.bool i) j pos) (eLit (.bl i)) := lit_of pe_bl fun _ => rfl
theorem q_non {j} : QE X cl W (.Constant .none j pos) (eLit .non) := lit_of pe_non fun _ => rfl
theorem q_str {i j} : QE X cl W (.Constant (.str i) j pos) (eLit (.str i)) := lit_of pe_str fun _ => rfl
/-- a constant of the module -/
theorem q_glob {x : Str} {d : D} {v : V} {u : Value} (hg : Gl X x) (hm : X.mg x = some u) (r : RelV v u) (q : ∀ H, Rep X.K H d v) (hd : (x == ("__debug__" : Str)) = false) : QE X cl W (.Name x pos) (eLit d) :=
  lit_of (pe_glob hg hm r hd) q

/-! ### two operands -/
def eBin (f : D → D → Mp → K3 → Prop) (A B : TE3) : TE3 := fun s m k x => A s m (fun u m1 => B s m1 (fun v m2 => f u v m2 k) x) x
def MonoF (f : D → D → Mp → K3 → Prop) : Prop := ∀ u v m k k', (∀ d m, k d m → k' d m) → f u v m k → f u v m k'
theorem mono_bin {f : D → D → Mp → K3 → Prop} (hf : MonoF f) (ha : MonoE A) (hb : MonoE B) : MonoE (eBin f A B) := fun s m k k' x x' hk hx h =>
  ha _ _ _ _ _ _ (fun u m1 h1 => hb _ _ _ _ _ _ (fun v m2 h2 => hf _ _ _ _ _ hk h2) hx h1) hx h
theorem two_up {r : R2} {f : D → D → Mp → K3 → Prop} (ma : MonoE A) (mb : MonoE B)
    (hf : ∀ (H : Hp) (m : Mp) (u v : D) (x y : V) (Q : VK), Rep X.K H u x → Rep X.K H v y → Ab X.K cl H m → f u v m (cE X.K cl H Q) → r x y H Q) (mf : MonoF f)
    (σ : L2.St) (H : Hp) (Q : VK) (h : upE X.K cl W (eBin f A B) σ H Q) : tOp r (upE X.K cl W A) (upE X.K cl W B) σ H Q := by
  obtain ⟨s, m, hs, hm, h⟩ := h
  refine ⟨s, m, hs, hm, ma _ _ _ _ _ _ (fun u m1 h1 x H1 rx hm1 e1 => ?_) (fun _ _ z => z) h⟩
  refine ⟨s, m1, hs.mono e1, hm1, mb _ _ _ _ _ _ (fun v m2 h2 y H2 ry hm2 e2 => ?_) (fun _ _ z => cX_ext e1 z) h1⟩
  exact hf H2 m2 u v x y Q (rx.mono e2) ry hm2 (mf _ _ _ _ _ (fun d m z => cE_ext (e1.trans e2) z) h2)
theorem q_bin {op : Operator} {r : R2} {f : D → D → Mp → K3 → Prop} (ho : OpR X (binaryOp op) r)
    (hf : ∀ (H : Hp) (m : Mp) (u v : D) (x y : V) (Q : VK), Rep X.K H u x → Rep X.K H v y → Ab X.K cl H m → f u v m (cE X.K cl H Q) → r x y H Q) (mf : MonoF f)
    (ha : QE X cl W a A) (hb : QE X cl W b B) : QE X cl W (.BinOp a op b pos) (eBin f A B) :=
  ⟨mono_bin mf ha.mono hb.mono, PE.imp (pe_op ho ha.run hb.run) (two_up ha.mono hb.mono hf mf)⟩
theorem q_cmp {op : CmpOp} {r : R2} {f : D → D → Mp → K3 → Prop} (ho : OpR X (compareOp op) r)
    (hf : ∀ (H : Hp) (m : Mp) (u v : D) (x y : V) (Q : VK), Rep X.K H u x → Rep X.K H v y → Ab X.K cl H m → f u v m (cE X.K cl H Q) → r x y H Q) (mf : MonoF f)
    (ha : QE X cl W a A) (hb : QE X cl W b B) (hm : behindInMarks op b = false) : QE X cl W (.Compare a [op] [b] pos) (eBin f A B) :=
  ⟨mono_bin mf ha.mono hb.mono, PE.imp (pe_cmpR ho ha.run hb.run hm) (two_up ha.mono hb.mono hf mf)⟩

/-- + -/
def fAdd : D → D → Mp → K3 → Prop
  | .int i, .int j, m, k => k (.int (i + j)) m
  | .str i, .str j, m, k => i.length + j.length ≤ sizeLine ∧ k (.str (i ++ j)) m
  | .tup i, .tup j, m, k => i.length + j.length ≤ sizeLine ∧ k (.tup (i ++ j)) m
  | .ref p, .ref q, m, k => ∃ l r, m p = some (.lst l) ∧ m q = some (.lst r) ∧ l.length + r.length ≤ sizeLine ∧ ∀ z, m z = none → k (.ref z) (mset m z (.lst (l ++ r)))
  | _, _, _, _ => False
theorem mono_add : MonoF fAdd := fun u v m k k' hk h => by
  unfold fAdd at h ⊢
  split at h <;> first
    | exact hk _ _ h
    | exact ⟨h.1, hk _ _ h.2⟩
    | (obtain ⟨l, r, h1, h2, h3, h4⟩ := h; exact ⟨l, r, h1, h2, h3, fun z hz => hk _ _ (h4 z hz)⟩)
    | exact h.elim
theorem rep_tup {K : PySem.W.Frag} {H : Hp} {p : Addr} {l : List D} {vs : List V} (h : H p = none) (r : Reps K H l vs) : Rep K (upd H p (.tup vs)) (.tup l) (.ref p) := ⟨p, vs, rfl, SqT.of upd_same, r.mono (Ext.new h)⟩
theorem new_lst {K : PySem.W.Frag} {cl : Cl} {H : Hp} {m : Mp} {p : Addr} {l : List D} {vs : List V} (hm : Ab K cl H m) (h : H p = none) (r : Reps K H l vs) : Ab K cl (upd H p (.lst vs)) (mset m p (.lst l)) :=
  hm.new h ⟨vs, upd_same, r.mono (Ext.new h)⟩
theorem put_lst {K : PySem.W.Frag} {cl : Cl} {H : Hp} {m : Mp} {p : Addr} {l : List D} {vs ws : List V} (hm : Ab K cl H m) (h : H p = some (.lst ws)) (r : Reps K H l vs) : Ab K cl (upd H p (.lst vs)) (mset m p (.lst l)) :=
  hm.put (ext_lst h) ⟨vs, upd_same, r.mono (ext_lst h)⟩
theorem Reps.nil_iff {K : PySem.W.Frag} {H : Hp} {l : List D} {vs : List V} (r : Reps K H l vs) : vs = [] ↔ l = [] := by
  have e := r.length
  constructor
  · intro h
    subst h
    exact List.eq_nil_of_length_eq_zero e
  · intro h
    subst h
    exact List.eq_nil_of_length_eq_zero e.symm
theorem q_add (ha : QE X cl W a A) (hb : QE X cl W b B) : QE X cl W (.BinOp a .Add b pos) (eBin fAdd A B) :=
  q_bin (op_add.or (op_add_str.or (op_catA.or op_cat))) (fun H m u v x y Q rx ry hm h => by
    unfold fAdd at h
    split at h
    · rename_i i j
      have rx' : x = .int i := rx
      have ry' : y = .int j := ry
      exact .inl ⟨i, j, rx', ry', h _ _ rfl hm (Ext.refl H)⟩
    · rename_i i j
      have rx' : x = .str i := rx
      have ry' : y = .str j := ry
      exact .inr (.inl ⟨i, j, rx', ry', h.1, h.2 _ _ rfl hm (Ext.refl H)⟩)
    · rename_i i j
      obtain ⟨p, vs, rfl, h1, h2⟩ := rx
      obtain ⟨q, ws, rfl, h3, h4⟩ := ry
      refine .inr (.inr (.inl ⟨p, q, vs, ws, rfl, rfl, h1, h3, by rw [← h2.length, ← h4.length]; exact h.1, fun e => ?_, fun _ e => ?_, fun _ _ z hz => ?_⟩))
      · have e' : i = [] := h2.nil_iff.mp e
        subst e'
        exact h.2 _ _ ⟨q, ws, rfl, h3, h4⟩ hm (Ext.refl H)
      · have e' : j = [] := h4.nil_iff.mp e
        subst e'
        rw [List.append_nil] at h
        exact h.2 _ _ ⟨p, vs, rfl, h1, h2⟩ hm (Ext.refl H)
      · exact h.2 _ _ (rep_tup hz (h2.append h4)) (hm.hid hz) (Ext.new hz)
    · rename_i p q
      have rx' : x = .ref p := rx
      have ry' : y = .ref q := ry
      obtain ⟨l, r, h1, h2, h3, h4⟩ := h
      obtain ⟨vs, e1, r1⟩ := hm.1 p _ h1
      obtain ⟨ws, e2, r2⟩ := hm.1 q _ h2
      refine .inr (.inr (.inr ⟨p, q, vs, ws, rx', ry', e1, e2, by rw [← r1.length, ← r2.length]; exact h3, fun z hz => ?_⟩))
      exact h4 z (hm.free hz) _ _ rfl (new_lst hm hz (r1.append r2)) (Ext.new hz)
    · exact h.elim) mono_add ha hb

/-- on ints, under a condition -/
def fI (C : Int → Int → Prop) (g : Int → Int → D) : D → D → Mp → K3 → Prop := fun u v m k => ∃ i j, u = .int i ∧ v = .int j ∧ C i j ∧ k (g i j) m
theorem mono_fI {C : Int → Int → Prop} {g : Int → Int → D} : MonoF (fI C g) := fun u v m k k' hk ⟨i, j, h1, h2, h3, h4⟩ => ⟨i, j, h1, h2, h3, hk _ _ h4⟩
def CT (_ _ : Int) : Prop := True
theorem up_I {C : Int → Int → Prop} {g : Int → Int → D} {g' : Int → Int → V} (r : ∀ H i j, Rep X.K H (g i j) (g' i j)) (H : Hp) (m : Mp) (u v : D) (x y : V) (Q : VK) (rx : Rep X.K H u x) (ry : Rep X.K H v y) (hm : Ab X.K cl H m)
    (h : fI C g u v m (cE X.K cl H Q)) : rI C g' x y H Q := by
  obtain ⟨i, j, rfl, rfl, h3, h4⟩ := h
  exact ⟨i, j, rx, ry, h3, h4 _ _ (r H i j) hm (Ext.refl H)⟩
theorem up_I0 {g : Int → Int → D} {g' : Int → Int → V} (r : ∀ H i j, Rep X.K H (g i j) (g' i j)) (H : Hp) (m : Mp) (u v : D) (x y : V) (Q : VK) (rx : Rep X.K H u x) (ry : Rep X.K H v y) (hm : Ab X.K cl H m)
    (h : fI CT g u v m (cE X.K cl H Q)) : rI0 g' x y H Q := by
  obtain ⟨i, j, rfl, rfl, h3, h4⟩ := h
  exact ⟨i, j, rx, ry, h4 _ _ (r H i j) hm (Ext.refl H)⟩
abbrev fSub := fI CT fun i j => .int (i - j)
abbrev fMulI := fI CMulW fun i j => .int (i * j)
abbrev fDiv := fI CDivW fun i j => .int (i / j)
abbrev fMod := fI (fun _ j => 0 < j) fun i j => .int (i % j)
abbrev fPow := fI CPow fun i j => .int (i ^ j.toNat)
theorem q_sub (ha : QE X cl W a A) (hb : QE X cl W b B) : QE X cl W (.BinOp a .Sub b pos) (eBin fSub A B) := q_bin op_sub (up_I0 fun _ _ _ => rfl) mono_fI ha hb
theorem q_div (ha : QE X cl W a A) (hb : QE X cl W b B) : QE X cl W (.BinOp a .FloorDiv b pos) (eBin fDiv A B) := q_bin op_fdivW (up_I fun _ _ _ => rfl) mono_fI ha hb
theorem q_mod (ha : QE X cl W a A) (hb : QE X cl W b B) : QE X cl W (.BinOp a .Mod b pos) (eBin fMod A B) := q_bin op_mod (up_I fun _ _ _ => rfl) mono_fI ha hb
theorem q_pow (ha : QE X cl W a A) (hb : QE X cl W b B) : QE X cl W (.BinOp a .Pow b pos) (eBin fPow A B) := q_bin op_pow (up_I fun _ _ _ => rfl) mono_fI ha hb
/-- a text so many times -/
def repS (z : Str) (n : Nat) : Str := ⟨(List.replicate n z.cps.toList).flatten.toArray⟩
theorem rep_foldl (z : Array Nat) : ∀ (n : Nat) (a : Array Nat), ((List.replicate n z).foldl (· ++ ·) a).toList = a.toList ++ (List.replicate n z.toList).flatten
  | 0, a => by simp
  | n + 1, a => by
    rw [List.replicate_succ, List.foldl_cons, rep_foldl z n (a ++ z), List.replicate_succ]
    simp
theorem op_mulS : OpR X (binaryOp .Mult) (fun x y H Q => ∃ (z : Str) (n : Int), x = .str z ∧ y = .int n ∧ -1000 ≤ n ∧ n ≤ 1000 ∧ z.length ≤ 1000 ∧ Q (.str (repS z n.toNat)) H) := by
  rintro pins s σ H x y v u Q I rx ry ⟨z, n, rfl, rfl, h1, h2, h3, q⟩
  obtain ⟨t, rfl⟩ := rx
  obtain ⟨t', rfl⟩ := ry
  have hle : ¬ n < 1 → z.length * n.toNat ≤ 1000 * 1000 := fun h => Nat.mul_le_mul h3 (by omega)
  refine PySem.P.mul_str (by rw [decide_eq_false (by omega), decide_eq_false (by omega)]; rfl) (fun h _ => ?_) (fun h _ => ?_) ?_
  · have : (1000 : Int) ≤ (2 ^ 63 - 1) / n := by
      refine (Int.le_ediv_iff_mul_le (by omega)).mpr ?_
      have : (1000 : Int) * n ≤ 1000 * 1000 := Int.mul_le_mul_of_nonneg_left h2 (by decide)
      omega
    omega
  · have := hle h
    unfold Builtin.Str.tooLong
    refine decide_eq_false ?_
    rw [sizeLine_eq]
    omega
  · have e : ∀ {v : Str}, v = repS z n.toNat → repS z n.toNat = v := fun h => h.symm
    by_cases c1 : n < 1
    · rw [if_pos c1]
      have : n.toNat = 0 := by omega
      rw [this] at q
      exact ⟨by decide, .str Str.empty, H, I.tok _, ⟨_, rfl⟩, q⟩
    · rw [if_neg c1]
      by_cases c2 : (n == 1 || z.length == 0) = true
      · rw [if_pos c2]
        have : repS z n.toNat = z := by
          rcases Bool.or_eq_true _ _ |>.mp c2 with c | c
          · have : n = 1 := by simpa using c
            subst this
            show (⟨([z.cps.toList].flatten).toArray⟩ : Str) = z
            simp
          · have c : z.cps.size = 0 := beq_iff_eq.mp c
            have c : z.cps.toList = [] := List.eq_nil_of_length_eq_zero (by rw [Array.length_toList]; exact c)
            unfold repS
            rw [c]
            have : (List.replicate n.toNat ([] : List Nat)).flatten = [] := by simp
            rw [this]
            cases z with
            | mk cps => simp at c; subst c; rfl
        rw [this] at q
        exact ⟨.str z, H, I, ⟨t, rfl⟩, q⟩
      · rw [if_neg c2]
        have er : (⟨(List.replicate n.toNat z.cps).foldl (· ++ ·) #[]⟩ : Str) = repS z n.toNat := by
          unfold repS
          congr 1
          apply Array.toList_inj.mp
          rw [rep_foldl]; simp
        rw [er]
        refine ⟨?_, .str (repS z n.toNat), H, I.tok _, ⟨_, rfl⟩, q⟩
        show (repS z n.toNat).length ≤ sizeLine
        have : (repS z n.toNat).length = n.toNat * z.length := by
          show ((List.replicate n.toNat z.cps.toList).flatten.toArray).size = _
          simp [Str.length]
        rw [this, Nat.mul_comm]
        have := hle c1
        rw [sizeLine_eq]
        omega
/-- * of two factors of together less than a hundred million bits -/
def CMulX (i j : Int) : Prop := i.natAbs.log2 + j.natAbs.log2 < 100000000
theorem op_mulX {X : Cx} : OpR X (binaryOp .Mult) (rI CMulX fun i j => .int (i * j)) := fun pins s σ H x y v u Q I rx ry ⟨i, j, ex, ey, h, q⟩ =>
  L2.op_mulX pins s σ H x y v u Q I rx ry ⟨i, j, ex, ey, L2.mulx_ok Nat.lt_log2_self Nat.lt_log2_self (by unfold CMulX at h; omega), q⟩
/-- *: ints; a tuple so many times -/
def fMul : D → D → Mp → K3 → Prop
  | .int i, .int j, m, k => CMulX i j ∧ k (.int (i * j)) m
  | .str z, .int n, m, k => -1000 ≤ n ∧ n ≤ 1000 ∧ z.length ≤ 1000 ∧ k (.str (repS z n.toNat)) m
  | .tup l, .int n, m, k => l ≠ [] ∧ 2 ≤ n ∧ n ≤ 1000 ∧ l.length ≤ 1000 ∧ k (.tup (List.replicate n.toNat l).flatten) m
  | .ref p, .int n, m, k => ∃ l, m p = some (.lst l) ∧ 0 ≤ n ∧ n ≤ 1000 ∧ l.length ≤ 1000 ∧ ∀ z, m z = none → k (.ref z) (mset m z (.lst (List.replicate n.toNat l).flatten))
  | _, _, _, _ => False
theorem mono_mul : MonoF fMul := fun u v m k k' hk h => by
  unfold fMul at h ⊢
  split at h <;> first
    | exact ⟨h.1, hk _ _ h.2⟩
    | exact ⟨h.1, h.2.1, h.2.2.1, hk _ _ h.2.2.2⟩
    | exact ⟨h.1, h.2.1, h.2.2.1, h.2.2.2.1, hk _ _ h.2.2.2.2⟩
    | (obtain ⟨l, h1, h2, h3, h4, h5⟩ := h; exact ⟨l, h1, h2, h3, h4, fun z hz => hk _ _ (h5 z hz)⟩)
    | exact h.elim
theorem q_mul (ha : QE X cl W a A) (hb : QE X cl W b B) : QE X cl W (.BinOp a .Mult b pos) (eBin fMul A B) :=
  q_bin ((op_mulX.or (op_repT.or op_rep)).or op_mulS) (fun H m u v x y Q rx ry hm h => by
    unfold fMul at h
    split at h
    · rename_i i j
      have rx' : x = .int i := rx
      have ry' : y = .int j := ry
      exact .inl (.inl ⟨i, j, rx', ry', h.1, h.2 _ _ rfl hm (Ext.refl H)⟩)
    · rename_i z n
      have rx' : x = .str z := rx
      have ry' : y = .int n := ry
      exact .inr ⟨z, n, rx', ry', h.1, h.2.1, h.2.2.1, h.2.2.2 _ _ rfl hm (Ext.refl H)⟩
    · rename_i l n
      obtain ⟨p, vs, rfl, h1, h2⟩ := rx
      have ry' : y = .int n := ry
      obtain ⟨c1, c2, c3, c4, h⟩ := h
      refine .inl (.inr (.inl ⟨p, n, vs, rfl, ry', h1, fun e => c1 (h2.nil_iff.mp e), c2, c3, by rw [← h2.length]; exact c4, fun z hz => ?_⟩))
      exact h _ _ (rep_tup hz (h2.rep _)) (hm.hid hz) (Ext.new hz)
    · rename_i p n
      have rx' : x = .ref p := rx
      have ry' : y = .int n := ry
      obtain ⟨l, c1, c2, c3, c4, h⟩ := h
      obtain ⟨vs, e1, r1⟩ := hm.1 p _ c1
      refine .inl (.inr (.inr ⟨p, n, vs, rx', ry', e1, by omega, by omega, ?_, fun z hz => ?_⟩))
      · rw [← r1.length, sizeLine_eq]
        have : l.length * n.toNat ≤ 1000 * 1000 := Nat.mul_le_mul c4 (by omega)
        omega
      · exact h z (hm.free hz) _ _ rfl (new_lst hm hz (r1.rep _)) (Ext.new hz)
    · exact h.elim) mono_mul ha hb

/-- - -/
def eNeg (A : TE3) : TE3 := fun s m k x => A s m (fun u m1 => ∃ i, u = .int i ∧ k (.int (-i)) m1) x
theorem q_neg (ha : QE X cl W a A) : QE X cl W (.UnaryOp .USub a pos) (eNeg A) :=
  ⟨fun s m k k' x x' hk hx h => ha.mono _ _ _ _ _ _ (fun u m1 ⟨i, h1, h2⟩ => ⟨i, h1, hk _ _ h2⟩) hx h,
   PE.imp (pe_un un_neg ha.run) fun σ H Q ⟨s, m, hs, hm, h⟩ => ⟨s, m, hs, hm, ha.mono _ _ _ _ _ _ (fun u m1 ⟨i, h1, h2⟩ v H' r a e => by
    subst h1
    have r' : v = .int i := r
    exact ⟨i, r', h2 _ _ rfl a e⟩) (fun _ _ z => z) h⟩⟩

/-! ### == of data -/
mutual
/-- d read as data: lists by what they hold now -/
inductive DP (m : Mp) : D → PyData → Prop
  | non : DP m .non .none
  | bl (b : Bool) : DP m (.bl b) (.bool b)
  | int (i : Int) : DP m (.int i) (.int i)
  | str (x : Str) : DP m (.str x) (.str x)
  | lst {a : Addr} {l : List D} {ds : List PyData} : RL m a l → DPs m l ds → DP m (.ref a) (.list ds)
  | tup {l : List D} {ds : List PyData} : DPs m l ds → DP m (.tup l) (.tuple ds)
inductive DPs (m : Mp) : List D → List PyData → Prop
  | nil : DPs m [] []
  | cons {v : D} {vs : List D} {d : PyData} {ds : List PyData} : DP m v d → DPs m vs ds → DPs m (v :: vs) (d :: ds)
end
mutual
theorem DP.dp {m : Mp} {K : PySem.W.Frag} {cl : Cl} {H : Hp} (hm : Ab K cl H m) : ∀ {p : PyData} {d : D} {v : V}, DP m d p → Rep K H d v → Dp K H v p
  | .none, _, _, h, r => by cases h; cases r; exact .non
  | .bool b, _, _, h, r => by cases h; cases r; exact .bl b
  | .int b, _, _, h, r => by cases h; cases r; exact .int b
  | .str b, _, _, h, r => by cases h; cases r; exact .str b
  | .list ds, _, _, h, r => by
    cases h with
    | lst h1 h2 =>
      cases r
      obtain ⟨vs, q1, q2⟩ := hm.rl h1
      exact .lst q1 (DPs.dp hm h2 q2)
  | .tuple ds, _, _, h, r => by
    cases h with
    | tup h2 =>
      obtain ⟨a, vs, rfl, q1, q2⟩ := r
      exact .tup q1 (DPs.dp hm h2 q2)
  | .dict _, _, _, h, _ => by cases h
theorem DPs.dp {m : Mp} {K : PySem.W.Frag} {cl : Cl} {H : Hp} (hm : Ab K cl H m) : ∀ {ps : List PyData} {ds : List D} {vs : List V}, DPs m ds ps → Reps K H ds vs → DpAll K H vs ps
  | [], _, _, h, r => by cases h; cases r; exact .nil
  | p :: ps, _, _, h, r => by
    cases h with
    | cons h1 h2 =>
      obtain ⟨v, vs, rfl, r1, r2⟩ := r
      exact .cons (DP.dp hm h1 r1) (DPs.dp hm h2 r2)
end
mutual
theorem DP.plain {m : Mp} : ∀ {p : PyData} {d : D}, DP m d p → p.plain = true
  | .none, _, _ => rfl
  | .bool b, _, _ => rfl
  | .int b, _, _ => rfl
  | .str b, _, _ => rfl
  | .list ds, _, h => by
    cases h with
    | lst h1 h2 => exact DPs.plain h2
  | .tuple ds, _, h => by
    cases h with
    | tup h2 => exact DPs.plain h2
  | .dict _, _, h => by cases h
theorem DPs.plain {m : Mp} : ∀ {ps : List PyData} {ds : List D}, DPs m ds ps → PyData.plainAll ps = true
  | [], _, _ => rfl
  | p :: ps, _, h => by
    cases h with
    | cons h1 h2 => unfold PyData.plainAll; rw [DP.plain h1, DPs.plain h2]; rfl
end
def PEq (d e : PyData) : Prop := min d.depth e.depth ≤ 64
/-! ### comparisons -/
/-- <, <=, >, >= of ints; < of texts -/
def fLt : D → D → Mp → K3 → Prop
  | .int i, .int j, m, k => k (.bl (decide (i < j))) m
  | .str i, .str j, m, k => k (.bl (decide (i.cps.toList < j.cps.toList))) m
  | u, v, m, k => ∃ d e, DP m u d ∧ DP m v e ∧ PEq d e ∧ PySem.W.alike d e = true ∧ d ≠ .none ∧ k (.bl (PySem.W.dataLt d e)) m
theorem mono_lt : MonoF fLt := fun u v m k k' hk h => by
  unfold fLt at h ⊢
  split at h <;> first | exact hk _ _ h | skip
  · obtain ⟨d, e, a1, a2, a3, a4, a5, a6⟩ := h
    exact ⟨d, e, a1, a2, a3, a4, a5, hk _ _ a6⟩
theorem reads_both {X : Cx} {pins : List (Addr × Obj)} {σ : L2.St} {H : Hp} {s : Shared} {x y : V} {v u : Value} {d e : PyData} (I : Inv X pins σ H s) (hd : Dp X.K H x d) (he : Dp X.K H y e) (rx : RelV x v) (ry : RelV y u) : ∃ as bs, Reads s.heap v d as ∧ Reads s.heap u e bs :=
  have ⟨as, r1⟩ := Dp.reads I _ _ _ hd rx
  have ⟨bs, r2⟩ := Dp.reads I _ _ _ he ry
  ⟨as, bs, r1, r2⟩
def rLtP (K : PySem.W.Frag) : R2 := fun x y H Q => ∃ d e, Dp K H x d ∧ Dp K H y e ∧ PEq d e ∧ PySem.W.alike d e = true ∧ d ≠ .none ∧ Q (.bl (PySem.W.dataLt d e)) H
theorem op_ltP (hu : X.A.units + 64 < cLine) : OpR X (compareOp .Lt) (rLtP X.K) := by
  rintro pins s σ H x y v u Q I rx ry ⟨d, e, hd, he, pe, al, nn, q⟩
  have ⟨as, bs, r1, r2⟩ := reads_both I hd he rx ry
  unfold PEq at pe
  exact PySem.W.lt_data r1 r2 al nn (by omega) ⟨.bl _, H, I, rfl, q⟩
theorem q_lt (hu : X.A.units + 64 < cLine) (ha : QE X cl W a A) (hb : QE X cl W b B) : QE X cl W (.Compare a [.Lt] [b] pos) (eBin fLt A B) :=
  q_cmp ((op_lt.or op_lt_str).or (op_ltP hu)) (fun H m u v x y Q rx ry hm h => by
    unfold fLt at h
    split at h
    · rename_i i j
      exact .inl (.inl ⟨i, j, rx, ry, h _ _ rfl hm (Ext.refl H)⟩)
    · rename_i i j
      exact .inl (.inr ⟨i, j, rx, ry, h _ _ rfl hm (Ext.refl H)⟩)
    · obtain ⟨d, e, h1, h2, h3, h4, h5, h6⟩ := h
      exact .inr ⟨d, e, h1.dp hm rx, h2.dp hm ry, h3, h4, h5, h6 _ _ rfl hm (Ext.refl H)⟩) mono_lt ha hb (nomark _)
abbrev fLe := fI CT fun i j => .bl (decide (i ≤ j))
abbrev fGt := fI CT fun i j => .bl (decide (j < i))
abbrev fGe := fI CT fun i j => .bl (decide (j ≤ i))
theorem q_le (ha : QE X cl W a A) (hb : QE X cl W b B) : QE X cl W (.Compare a [.LtE] [b] pos) (eBin fLe A B) := q_cmp op_le (up_I0 fun _ _ _ => rfl) mono_fI ha hb (nomark _)
theorem q_gt (ha : QE X cl W a A) (hb : QE X cl W b B) : QE X cl W (.Compare a [.Gt] [b] pos) (eBin fGt A B) := q_cmp op_gt (up_I0 fun _ _ _ => rfl) mono_fI ha hb (nomark _)
theorem q_ge (ha : QE X cl W a A) (hb : QE X cl W b B) : QE X cl W (.Compare a [.GtE] [b] pos) (eBin fGe A B) := q_cmp op_ge (up_I0 fun _ _ _ => rfl) mono_fI ha hb (nomark _)
/-- two comparisons of ints in a chain: <= <=, < <, <= < -/
def eChain (p q : Int → Int → Bool) (A B C : TE3) : TE3 := fun s m k x => A s m (fun u m1 => B s m1 (fun v m2 => ∃ i j, u = .int i ∧ v = .int j ∧ if p i j = true then C s m2 (fun w m3 => ∃ l, w = .int l ∧ k (.bl (q j l)) m3) x else k (.bl false) m2) x) x
theorem q_chain {op op' : CmpOp} {p q : Int → Int → Bool} (ho : OpR X (compareOp op) (rI0 fun i j => .bl (p i j))) (ho' : OpR X (compareOp op') (rI0 fun i j => .bl (q i j))) (n1 : op ≠ .In) (n2 : op ≠ .NotIn) (n3 : op' ≠ .In) (n4 : op' ≠ .NotIn)
    (ha : QE X cl W a A) (hb : QE X cl W b B) (hc : QE X cl W c C) : QE X cl W (.Compare a [op, op'] [b, c] pos) (eChain p q A B C) :=
  ⟨fun s m k k' x x' hk hx h => ha.mono _ _ _ _ _ _ (fun u m1 h1 => hb.mono _ _ _ _ _ _ (fun v m2 ⟨i, j, e1, e2, h2⟩ => ⟨i, j, e1, e2, by
      split at h2
      · rename_i z
        rw [if_pos z]
        exact hc.mono _ _ _ _ _ _ (fun w m3 ⟨l, e3, h3⟩ => ⟨l, e3, hk _ _ h3⟩) hx h2
      · rename_i z
        rw [if_neg z]
        exact hk _ _ h2⟩) hx h1) hx h,
   PE.imp (pe_chain ho ho' ha.run hb.run hc.run (show behindInMarks op' c = false from nobehind _ n3 n4)) fun σ H Q ⟨s, m, hs, hm, h⟩ => by
    refine ⟨s, m, hs, hm, ha.mono _ _ _ _ _ _ (fun u m1 h1 x H1 rx hm1 e1 => ?_) (fun _ _ z => z) h⟩
    refine ⟨s, m1, hs.mono e1, hm1, hb.mono _ _ _ _ _ _ (fun v m2 h2 y H2 ry hm2 e2 => ?_) (fun _ _ z => cX_ext e1 z) h1⟩
    obtain ⟨i, j, rfl, rfl, h3⟩ := h2
    refine ⟨i, j, rx, ry, p i j, rfl, ?_⟩
    split at h3
    · rename_i z
      rw [if_pos z]
      refine ⟨s, m2, hs.mono (e1.trans e2), hm2, hc.mono _ _ _ _ _ _ (fun w m3 ⟨l, e3, h4⟩ z H3 rz hm3 e4 => ?_) (fun _ _ z => cX_ext (e1.trans e2) z) h3⟩
      subst e3
      have ry' : y = .int j := ry
      exact ⟨j, l, ry', rz, h4 _ _ rfl hm3 ((e1.trans e2).trans e4)⟩
    · rename_i z
      rw [if_neg z]
      exact h3 _ _ rfl hm2 (e1.trans e2)⟩

/-! ### == -/
def fEq : D → D → Mp → K3 → Prop := fun u v m k => ∃ d e, DP m u d ∧ DP m v e ∧ PEq d e ∧ k (.bl (PyData.eqv d e)) m
def fNe : D → D → Mp → K3 → Prop := fun u v m k => ∃ d e, DP m u d ∧ DP m v e ∧ PEq d e ∧ k (.bl (!PyData.eqv d e)) m
def rEqP (K : PySem.W.Frag) : R2 := fun x y H Q => ∃ d e, Dp K H x d ∧ Dp K H y e ∧ d.plain = true ∧ e.plain = true ∧ PEq d e ∧ Q (.bl (PyData.eqv d e)) H
def rNeP (K : PySem.W.Frag) : R2 := fun x y H Q => ∃ d e, Dp K H x d ∧ Dp K H y e ∧ d.plain = true ∧ e.plain = true ∧ PEq d e ∧ Q (.bl (!PyData.eqv d e)) H
theorem op_eqP (hu : X.A.units + 64 < cLine) : OpR X (compareOp .Eq) (rEqP X.K) := by
  rintro pins s σ H x y v u Q I rx ry ⟨d, e, hd, he, sd, se, pe, q⟩
  have ⟨as, bs, r1, r2⟩ := reads_both I hd he rx ry
  unfold PEq at pe
  exact SeqAt.eq_plain r1 r2 sd se (by omega) ⟨.bl _, H, I, rfl, q⟩
theorem op_neP (hu : X.A.units + 64 < cLine) : OpR X (compareOp .NotEq) (rNeP X.K) := by
  rintro pins s σ H x y v u Q I rx ry ⟨d, e, hd, he, sd, se, pe, q⟩
  have ⟨as, bs, r1, r2⟩ := reads_both I hd he rx ry
  unfold PEq at pe
  exact SeqAt.ne_plain r1 r2 sd se (by omega) ⟨.bl _, H, I, rfl, q⟩
theorem mono_fEq : MonoF fEq := fun u v m k k' hk ⟨d, e, h1, h2, h3, h4⟩ => ⟨d, e, h1, h2, h3, hk _ _ h4⟩
theorem mono_fNe : MonoF fNe := fun u v m k k' hk ⟨d, e, h1, h2, h3, h4⟩ => ⟨d, e, h1, h2, h3, hk _ _ h4⟩
theorem q_eq (hu : X.A.units + 64 < cLine) (ha : QE X cl W a A) (hb : QE X cl W b B) : QE X cl W (.Compare a [.Eq] [b] pos) (eBin fEq A B) :=
  q_cmp (op_eqP hu) (fun H m u v x y Q rx ry hm ⟨d, e, h1, h2, h3, h4⟩ => ⟨d, e, h1.dp hm rx, h2.dp hm ry, h1.plain, h2.plain, h3, h4 _ _ rfl hm (Ext.refl H)⟩) mono_fEq ha hb (nomark _)
theorem q_ne (hu : X.A.units + 64 < cLine) (ha : QE X cl W a A) (hb : QE X cl W b B) : QE X cl W (.Compare a [.NotEq] [b] pos) (eBin fNe A B) :=
  q_cmp (op_neP hu) (fun H m u v x y Q rx ry hm ⟨d, e, h1, h2, h3, h4⟩ => ⟨d, e, h1.dp hm rx, h2.dp hm ry, h1.plain, h2.plain, h3, h4 _ _ rfl hm (Ext.refl H)⟩) mono_fNe ha hb (nomark _)

/-! ### in: a list, a tuple of data; one sign (or any text) in a text -/
def inB (neg : Bool) (b : Bool) : D := .bl (if neg then !b else b)
/-- looked up in a dict: what stands there, if a thing stands -/
def DG (m : Mp) (a : Addr) (y : D) (o : Option D) : Prop := ∃ kvs k, (m a = some (.dK kvs) ∨ m a = some (.rdK kvs)) ∧ y = keyD k ∧ o = getD kvs k
theorem DG.up {K : PySem.W.Frag} {H : Hp} {m : Mp} {a : Addr} {y : D} {v : V} {o : Option D} (g : DG m a y o) (hm : Ab K cl H m) (ry : Rep K H y v) :
    ∃ ov, DGet H a v ov ∧ ((o = none ∧ ov = none) ∨ ∃ d w, o = some d ∧ ov = some w ∧ Rep K H d w) := by
  obtain ⟨kvs, k, h1, rfl, rfl⟩ := g
  have ev := rep_key ry
  subst ev
  rcases h1 with h1 | h1
  · obtain ⟨kws, q1, q2⟩ := hm.1 a _ h1
    refine ⟨_, .inl ⟨kws, k, .inl q1, rfl, rfl⟩, ?_⟩
    rcases q2.val k with ⟨e1, e2⟩ | ⟨d, w, e1, e2, e3⟩
    · exact .inl ⟨e1, e2⟩
    · exact .inr ⟨d, w, e1, e2, e3⟩
  · obtain ⟨ob, kws, q1, q2⟩ := hm.1 a _ h1
    refine ⟨_, .inl ⟨kws, k, .inr ⟨ob, q1⟩, rfl, rfl⟩, ?_⟩
    rcases q2.val k with ⟨e1, e2⟩ | ⟨d, w, e1, e2, e3⟩
    · exact .inl ⟨e1, e2⟩
    · exact .inr ⟨d, w, e1, e2, e3⟩
theorem op_inD (hu : X.A.units + 1 < cLine) : OpR X (compareOp .In) (fun x y H Q => ∃ a o, y = .ref a ∧ DGet H a x o ∧ Q (.bl o.isSome) H) := by
  rintro pins s σ H x y v u Q I rx ry ⟨a, o, rfl, g, q⟩
  cases ry
  exact d_in hu I g rx fun s3 I3 => ⟨.bl o.isSome, H, I3, rfl, q⟩
theorem op_notInD (hu : X.A.units + 1 < cLine) : OpR X (compareOp .NotIn) (fun x y H Q => ∃ a o, y = .ref a ∧ DGet H a x o ∧ Q (.bl (!o.isSome)) H) := by
  rintro pins s σ H x y v u Q I rx ry ⟨a, o, rfl, g, q⟩
  cases ry
  exact d_notIn hu I g rx fun s3 I3 => ⟨.bl (!o.isSome), H, I3, rfl, q⟩
def fIn (neg : Bool) : D → D → Mp → K3 → Prop := fun u v m k =>
  (∃ d l ds, DP m u d ∧ ((∃ p, v = .ref p ∧ RL m p l) ∨ v = .tup l) ∧ DPs m l ds ∧ d.depth ≤ 64 ∧ k (inB neg (ds.any fun y => PyData.eqv y d)) m) ∨
  (∃ i j, u = .str i ∧ v = .str j ∧ k (inB neg (!(Builtin.Str.occurrences j i 0 j.length 1).isEmpty)) m) ∨
  ∃ a o, v = .ref a ∧ DG m a u o ∧ k (inB neg o.isSome) m
theorem mono_fIn {neg : Bool} : MonoF (fIn neg) := fun u v m k k' hk h => by
  rcases h with ⟨d, l, ds, h1, h2, h3, h4, h5⟩ | ⟨i, j, h1, h2, h3⟩ | ⟨a, o, h1, h2, h3⟩
  · exact .inl ⟨d, l, ds, h1, h2, h3, h4, hk _ _ h5⟩
  · exact .inr (.inl ⟨i, j, h1, h2, hk _ _ h3⟩)
  · exact .inr (.inr ⟨a, o, h1, h2, hk _ _ h3⟩)
def rInP (K : PySem.W.Frag) (neg : Bool) : R2 := fun x y H Q => ∃ d e ds, Dp K H x d ∧ Dp K H y e ∧ (e = .list ds ∨ e = .tuple ds) ∧ d.plain = true ∧ PyData.plainAll ds = true ∧ d.depth ≤ 64 ∧ Q (.bl (if neg then !(ds.any fun y => PyData.eqv y d) else ds.any fun y => PyData.eqv y d)) H
theorem op_inP (hu : X.A.units + 64 + 2 < cLine) : OpR X (compareOp .In) (rInP X.K false) := by
  rintro pins s σ H x y v u Q I rx ry ⟨d, e, ds, hd, he, hs, p1, p2, p3, q⟩
  have ⟨as, bs, r1, r2⟩ := reads_both I hd he rx ry
  have z : X.A.units + 1 + min (PyData.depthAll ds) d.depth < cLine := by have : min (PyData.depthAll ds) d.depth ≤ d.depth := Nat.min_le_right _ _; omega
  rcases hs with rfl | rfl
  · exact SeqAt.in_list_data r2 r1 p2 p1 z ⟨.bl _, H, I, rfl, q⟩
  · exact SeqAt.in_tuple_data r2 r1 p2 p1 z ⟨.bl _, H, I, rfl, q⟩
theorem op_notInP (hu : X.A.units + 64 + 2 < cLine) : OpR X (compareOp .NotIn) (rInP X.K true) := by
  rintro pins s σ H x y v u Q I rx ry ⟨d, e, ds, hd, he, hs, p1, p2, p3, q⟩
  have ⟨as, bs, r1, r2⟩ := reads_both I hd he rx ry
  have z : X.A.units + 1 + min (PyData.depthAll ds) d.depth < cLine := by have : min (PyData.depthAll ds) d.depth ≤ d.depth := Nat.min_le_right _ _; omega
  rcases hs with rfl | rfl
  · exact SeqAt.notIn_list_data r2 r1 p2 p1 z ⟨.bl _, H, I, rfl, q⟩
  · exact SeqAt.notIn_tuple_data r2 r1 p2 p1 z ⟨.bl _, H, I, rfl, q⟩
theorem up_in {neg : Bool} {rs rd : R2} (hs : ∀ i j H Q, Q (.bl (if neg then !(!(Builtin.Str.occurrences j i 0 j.length 1).isEmpty) else !(Builtin.Str.occurrences j i 0 j.length 1).isEmpty)) H → rs (.str i) (.str j) H Q)
    (hd : ∀ x a ov H Q, DGet H a x ov → Q (.bl (if neg then !ov.isSome else ov.isSome)) H → rd x (.ref a) H Q) (H : Hp) (m : Mp) (u v : D) (x y : V) (Q : VK) (rx : Rep X.K H u x) (ry : Rep X.K H v y) (hm : Ab X.K cl H m)
    (h : fIn neg u v m (cE X.K cl H Q)) : (rInP X.K neg x y H Q ∨ rs x y H Q) ∨ rd x y H Q := by
  rcases h with ⟨d, l, ds, h1, h2, h3, h4, h5⟩ | ⟨i, j, rfl, rfl, h3⟩ | ⟨a, o, rfl, h2, h3⟩
  · refine .inl (.inl ?_)
    rcases h2 with ⟨p, rfl, h2⟩ | rfl
    · exact ⟨d, _, ds, h1.dp hm rx, (DP.lst h2 h3).dp hm ry, .inl rfl, h1.plain, h3.plain, h4, h5 _ _ rfl hm (Ext.refl H)⟩
    · exact ⟨d, _, ds, h1.dp hm rx, (DP.tup h3).dp hm ry, .inr rfl, h1.plain, h3.plain, h4, h5 _ _ rfl hm (Ext.refl H)⟩
  · have rx' : x = .str i := rx
    have ry' : y = .str j := ry
    subst rx' ry'
    exact .inl (.inr (hs i j H Q (h3 _ _ rfl hm (Ext.refl H))))
  · have ry' : y = .ref a := ry
    subst ry'
    obtain ⟨ov, g, e⟩ := h2.up hm rx
    refine .inr (hd _ _ ov H Q g ?_)
    have := h3 _ _ rfl hm (Ext.refl H)
    rcases e with ⟨rfl, rfl⟩ | ⟨d, w, rfl, rfl, _⟩ <;> exact this
theorem q_in (hu : X.A.units + 64 + 2 < cLine) (ha : QE X cl W a A) (hb : QE X cl W b B) (hm : behindInMarks .In b = false) : QE X cl W (.Compare a [.In] [b] pos) (eBin (fIn false) A B) :=
  q_cmp (((op_inP hu).or op_in_str).or (op_inD (by omega))) (up_in (fun i j H Q q => ⟨i, j, rfl, rfl, q⟩) fun x a ov H Q g q => ⟨a, ov, rfl, g, q⟩) mono_fIn ha hb hm
theorem q_notin (hu : X.A.units + 64 + 2 < cLine) (ha : QE X cl W a A) (hb : QE X cl W b B) (hm : behindInMarks .NotIn b = false) : QE X cl W (.Compare a [.NotIn] [b] pos) (eBin (fIn true) A B) :=
  q_cmp (((op_notInP hu).or op_notin_str).or (op_notInD (by omega))) (up_in (fun i j H Q q => ⟨i, j, rfl, rfl, q⟩) fun x a ov H Q g q => ⟨a, ov, rfl, g, q⟩) mono_fIn ha hb hm

/-! ### is None; is True -/
def isD (u v : D) : Option Bool := match u, v with
  | .non, .non => some true
  | .bl i, .bl j => some (decide (i = j))
  | _, .non => some false
  | _, _ => none
def fIs (neg : Bool) : D → D → Mp → K3 → Prop := fun u v m k => ∃ b, isD u v = some b ∧ k (inB neg b) m
theorem mono_fIs {neg : Bool} : MonoF (fIs neg) := fun u v m k k' hk ⟨b, h1, h2⟩ => ⟨b, h1, hk _ _ h2⟩
theorem rep_non {K : PySem.W.Frag} {H : Hp} {d : D} {v : V} (r : Rep K H d v) : v = .non ↔ d = .non := by
  constructor
  · intro e
    subst e
    cases d with
    | non => rfl
    | tup l => obtain ⟨a, vs, q, _⟩ := r; cases q
    | _ => exact absurd r (by intro z; cases z)
  · intro e; subst e; exact r
theorem up_is {neg : Bool} {r1 r2 : R2} (h1 : ∀ x H Q, Q (.bl (if neg then !decide (x = V.non) else decide (x = V.non))) H → r1 x .non H Q) (h2 : ∀ a b H Q, Q (.bl (if neg then !decide (a = b) else decide (a = b))) H → r2 (.bl a) (.bl b) H Q)
    (H : Hp) (m : Mp) (u v : D) (x y : V) (Q : VK) (rx : Rep X.K H u x) (ry : Rep X.K H v y) (hm : Ab X.K cl H m) (h : fIs neg u v m (cE X.K cl H Q)) : r1 x y H Q ∨ r2 x y H Q := by
  obtain ⟨b, e, h⟩ := h
  by_cases hv : v = .non
  · subst hv
    have ry' : y = .non := ry
    subst ry'
    refine .inl (h1 x H Q ?_)
    have q : b = decide (x = V.non) := by
      cases u <;> simp only [isD, Option.some.injEq] at e <;> subst e <;> symm
      case non => have rx' : x = .non := rx; subst rx'; rfl
      all_goals
        rw [decide_eq_false_iff_not]
        intro z
        have := (rep_non rx).mp z
        cases this
    have := h _ _ rfl hm (Ext.refl H)
    rw [q] at this
    exact this
  · cases u <;> cases v <;> simp only [isD] at e <;> first | exact absurd rfl hv | cases e
    rename_i i j
    have rx' : x = .bl i := rx
    have ry' : y = .bl j := ry
    subst rx' ry'
    exact .inr (h2 i j H Q (h _ _ rfl hm (Ext.refl H)))
theorem q_is (ha : QE X cl W a A) (hb : QE X cl W b B) : QE X cl W (.Compare a [.Is] [b] pos) (eBin (fIs false) A B) :=
  q_cmp (op_isN.or op_isBl) (up_is (fun x H Q q => ⟨rfl, q⟩) fun a b H Q q => ⟨a, b, rfl, rfl, q⟩) mono_fIs ha hb (nomark _)
theorem q_isnot (ha : QE X cl W a A) (hb : QE X cl W b B) : QE X cl W (.Compare a [.IsNot] [b] pos) (eBin (fIs true) A B) :=
  q_cmp (op_notN.or op_notBl) (up_is (fun x H Q q => ⟨rfl, q⟩) fun a b H Q q => ⟨a, b, rfl, rfl, q⟩) mono_fIs ha hb (nomark _)
end
end PV

/-! Tests, displays, subscripts, calls. -/
namespace PV
open PySem L2 PyProof.Rows
section
variable {X : Cx} {cl : Cl} {W : WX} {a b c : Expr} {A B C : TE3} {TA TB : TT3} {rest : List Expr} {pos : Pos}

/-! ### tests -/
def tBv (T : TE3) : TT3 := fun s m k x => T s m (fun d m1 => ∃ b, d = .bl b ∧ k b m1) x
theorem mono_tBv (h : MonoE A) : MonoT (tBv A) := fun s m k k' x x' hk hx q => h _ _ _ _ _ _ (fun d m ⟨b, e, z⟩ => ⟨b, e, hk _ _ z⟩) hx q
theorem upT_tBv (h : MonoE A) (σ : L2.St) (H : Hp) (Q : Bool → Hp → Prop) (q : upT X.K cl W (tBv A) σ H Q) : upE X.K cl W A σ H fun x H' => ∃ k, x = .bl k ∧ Q k H' := by
  obtain ⟨s, m, hs, hm, q⟩ := q
  exact ⟨s, m, hs, hm, h _ _ _ _ _ _ (fun d m ⟨b, e, z⟩ v H' r a e' => ⟨b, by subst e; exact r, z H' a e'⟩) (fun _ _ z => z) q⟩
theorem t_cmp {op : CmpOp} {r : R2} {f : D → D → Mp → K3 → Prop} (ho : OpR X (compareOp op) r)
    (hf : ∀ (H : Hp) (m : Mp) (u v : D) (x y : V) (Q : VK), Rep X.K H u x → Rep X.K H v y → Ab X.K cl H m → f u v m (cE X.K cl H Q) → r x y H Q) (mf : MonoF f)
    (ha : QE X cl W a A) (hb : QE X cl W b B) (hm : behindInMarks op b = false) : QT X cl W (.Compare a [op] [b] pos) (tBv (eBin f A B)) :=
  ⟨mono_tBv (mono_bin mf ha.mono hb.mono), PT.imp (pt_cmpR ho ha.run hb.run hm) fun σ H Q q => two_up ha.mono hb.mono hf mf σ H _ (upT_tBv (mono_bin mf ha.mono hb.mono) σ H Q q)⟩
theorem t_lt (hu : X.A.units + 64 < cLine) (ha : QE X cl W a A) (hb : QE X cl W b B) : QT X cl W (.Compare a [.Lt] [b] pos) (tBv (eBin fLt A B)) :=
  t_cmp ((op_lt.or op_lt_str).or (op_ltP hu)) (fun H m u v x y Q rx ry hm h => by
    unfold fLt at h
    split at h
    · rename_i i j
      exact .inl (.inl ⟨i, j, rx, ry, h _ _ rfl hm (Ext.refl H)⟩)
    · rename_i i j
      exact .inl (.inr ⟨i, j, rx, ry, h _ _ rfl hm (Ext.refl H)⟩)
    · obtain ⟨d, e, h1, h2, h3, h4, h5, h6⟩ := h
      exact .inr ⟨d, e, h1.dp hm rx, h2.dp hm ry, h3, h4, h5, h6 _ _ rfl hm (Ext.refl H)⟩) mono_lt ha hb (nomark _)
theorem t_le (ha : QE X cl W a A) (hb : QE X cl W b B) : QT X cl W (.Compare a [.LtE] [b] pos) (tBv (eBin fLe A B)) := t_cmp op_le (up_I0 fun _ _ _ => rfl) mono_fI ha hb (nomark _)
theorem t_gt (ha : QE X cl W a A) (hb : QE X cl W b B) : QT X cl W (.Compare a [.Gt] [b] pos) (tBv (eBin fGt A B)) := t_cmp op_gt (up_I0 fun _ _ _ => rfl) mono_fI ha hb (nomark _)
theorem t_ge (ha : QE X cl W a A) (hb : QE X cl W b B) : QT X cl W (.Compare a [.GtE] [b] pos) (tBv (eBin fGe A B)) := t_cmp op_ge (up_I0 fun _ _ _ => rfl) mono_fI ha hb (nomark _)
theorem t_eq (hu : X.A.units + 64 < cLine) (ha : QE X cl W a A) (hb : QE X cl W b B) : QT X cl W (.Compare a [.Eq] [b] pos) (tBv (eBin fEq A B)) :=
  t_cmp (op_eqP hu) (fun H m u v x y Q rx ry hm ⟨d, e, h1, h2, h3, h4⟩ => ⟨d, e, h1.dp hm rx, h2.dp hm ry, h1.plain, h2.plain, h3, h4 _ _ rfl hm (Ext.refl H)⟩) mono_fEq ha hb (nomark _)
theorem t_ne (hu : X.A.units + 64 < cLine) (ha : QE X cl W a A) (hb : QE X cl W b B) : QT X cl W (.Compare a [.NotEq] [b] pos) (tBv (eBin fNe A B)) :=
  t_cmp (op_neP hu) (fun H m u v x y Q rx ry hm ⟨d, e, h1, h2, h3, h4⟩ => ⟨d, e, h1.dp hm rx, h2.dp hm ry, h1.plain, h2.plain, h3, h4 _ _ rfl hm (Ext.refl H)⟩) mono_fNe ha hb (nomark _)
theorem t_in (hu : X.A.units + 64 + 2 < cLine) (ha : QE X cl W a A) (hb : QE X cl W b B) (hm : behindInMarks .In b = false) : QT X cl W (.Compare a [.In] [b] pos) (tBv (eBin (fIn false) A B)) :=
  t_cmp (((op_inP hu).or op_in_str).or (op_inD (by omega))) (up_in (fun i j H Q q => ⟨i, j, rfl, rfl, q⟩) fun x a ov H Q g q => ⟨a, ov, rfl, g, q⟩) mono_fIn ha hb hm
theorem t_notin (hu : X.A.units + 64 + 2 < cLine) (ha : QE X cl W a A) (hb : QE X cl W b B) (hm : behindInMarks .NotIn b = false) : QT X cl W (.Compare a [.NotIn] [b] pos) (tBv (eBin (fIn true) A B)) :=
  t_cmp (((op_notInP hu).or op_notin_str).or (op_notInD (by omega))) (up_in (fun i j H Q q => ⟨i, j, rfl, rfl, q⟩) fun x a ov H Q g q => ⟨a, ov, rfl, g, q⟩) mono_fIn ha hb hm
theorem t_is (ha : QE X cl W a A) (hb : QE X cl W b B) : QT X cl W (.Compare a [.Is] [b] pos) (tBv (eBin (fIs false) A B)) :=
  t_cmp (op_isN.or op_isBl) (up_is (fun x H Q q => ⟨rfl, q⟩) fun a b H Q q => ⟨a, b, rfl, rfl, q⟩) mono_fIs ha hb (nomark _)
theorem t_isnot (ha : QE X cl W a A) (hb : QE X cl W b B) : QT X cl W (.Compare a [.IsNot] [b] pos) (tBv (eBin (fIs true) A B)) :=
  t_cmp (op_notN.or op_notBl) (up_is (fun x H Q q => ⟨rfl, q⟩) fun a b H Q q => ⟨a, b, rfl, rfl, q⟩) mono_fIs ha hb (nomark _)
/-- truth -/
def TruD (m : Mp) : D → Bool → Prop
  | .non, k => k = false
  | .bl b, k => k = b
  | .int i, k => k = (i != 0)
  | .str y, k => y.length ≤ sizeLine ∧ k = ((y.length : Int) != 0)
  | .tup l, k => k = !l.isEmpty
  | .ref p, k => (∃ l, RL m p l ∧ k = !l.isEmpty) ∨ ∃ kvs, m p = some (.dK kvs) ∧ k = !kvs.isEmpty
  | .ty _, _ => False
theorem Reps.empty {K : PySem.W.Frag} {H : Hp} {l : List D} {vs : List V} (r : Reps K H l vs) : vs.isEmpty = l.isEmpty := by
  have e := r.length
  cases vs <;> cases l <;> first | rfl | cases e
theorem TruD.up {m : Mp} {d : D} {v : V} {k : Bool} {H : Hp} (h : TruD m d k) (r : Rep X.K H d v) (hm : Ab X.K cl H m) : TruV X.K v H k := by
  cases d with
  | non => cases r; exact h
  | bl b => cases r; exact h
  | int i => cases r; exact h
  | str y => cases r; exact h
  | tup l =>
    obtain ⟨p, vs, rfl, h1, h2⟩ := r
    exact .inr (.inl ⟨vs, h1, by rw [h2.empty]; exact h⟩)
  | ref p =>
    cases r
    rcases h with ⟨l, h1, h2⟩ | ⟨kvs, h1, h2⟩
    · obtain ⟨vs, q1, q2⟩ := hm.rl h1
      exact .inl ⟨vs, q1, by rw [q2.empty]; exact h2⟩
    · obtain ⟨kws, q1, q2⟩ := hm.1 p _ h1
      refine .inr (.inr ⟨kws, q1, ?_⟩)
      rw [h2]
      cases kvs with
      | nil => cases q2; rfl
      | cons kv kvs => obtain ⟨k, d⟩ := kv; obtain ⟨v, r', e, _⟩ := q2; subst e; rfl
  | ty n => exact h.elim
def tTru (T : TE3) : TT3 := fun s m k x => T s m (fun d m1 => ∃ b, TruD m1 d b ∧ k b m1) x
theorem t_tru (ha : QE X cl W a A) (he : ∀ whole, isTrue a X.env whole = (do let v ← whole; standAt a.pos; holding [v] (truthy v))) : QT X cl W a (tTru A) :=
  ⟨fun s m k k' x x' hk hx q => ha.mono _ _ _ _ _ _ (fun d m ⟨b, e, z⟩ => ⟨b, e, hk _ _ z⟩) hx q,
   PT.imp (pt_truth ha.run he) fun σ H Q ⟨s, m, hs, hm, q⟩ => ⟨s, m, hs, hm, ha.mono _ _ _ _ _ _ (fun d m ⟨b, e, z⟩ v H' r a e' => ⟨b, e.up r a, z H' a e'⟩) (fun _ _ z => z) q⟩⟩

/-! ### and, or, not as tests -/
def tAnd3 (t u : TT3) : TT3 := fun s m k x => t s m (fun c m1 => if c = true then u s m1 k x else k false m1) x
def tOr3 (t u : TT3) : TT3 := fun s m k x => t s m (fun c m1 => if c = true then k true m1 else u s m1 k x) x
def tNot3 (t : TT3) : TT3 := fun s m k x => t s m (fun c m1 => k (!c) m1) x
theorem mono_and3 (ha : MonoT TA) (hb : MonoT TB) : MonoT (tAnd3 TA TB) := fun s m k k' x x' hk hx q => ha _ _ _ _ _ _ (fun c m1 z => by
  cases c with
  | true => exact hb _ _ _ _ _ _ hk hx z
  | false => exact hk _ _ z) hx q
theorem mono_or3 (ha : MonoT TA) (hb : MonoT TB) : MonoT (tOr3 TA TB) := fun s m k k' x x' hk hx q => ha _ _ _ _ _ _ (fun c m1 z => by
  cases c with
  | true => exact hk _ _ z
  | false => exact hb _ _ _ _ _ _ hk hx z) hx q
theorem w_and1 (ha : QT X cl W a TA) : QW X cl W (.BoolOp .And [a] pos) TA := ⟨ha.mono, pw_and1 ha.run⟩
theorem w_or1 (ha : QT X cl W a TA) : QW X cl W (.BoolOp .Or [a] pos) TA := ⟨ha.mono, pw_or1 ha.run⟩
theorem w_and (ha : QT X cl W a TA) (hb : QW X cl W (.BoolOp .And (b :: rest) pos) TB) : QW X cl W (.BoolOp .And (a :: b :: rest) pos) (tAnd3 TA TB) :=
  ⟨mono_and3 ha.mono hb.mono, PW.imp (pw_and ha.run hb.run) fun σ H Q ⟨s, m, hs, hm, q⟩ => ⟨s, m, hs, hm, ha.mono _ _ _ _ _ _ (fun c m1 z H1 hm1 e1 => by
    cases c with
    | true => exact ⟨s, m1, hs.mono e1, hm1, hb.mono _ _ _ _ _ _ (fun d m2 w => cT_ext e1 w) (fun _ _ w => cX_ext e1 w) z⟩
    | false => exact z H1 hm1 e1) (fun _ _ z => z) q⟩⟩
theorem w_or (ha : QT X cl W a TA) (hb : QW X cl W (.BoolOp .Or (b :: rest) pos) TB) : QW X cl W (.BoolOp .Or (a :: b :: rest) pos) (tOr3 TA TB) :=
  ⟨mono_or3 ha.mono hb.mono, PW.imp (pw_or ha.run hb.run) fun σ H Q ⟨s, m, hs, hm, q⟩ => ⟨s, m, hs, hm, ha.mono _ _ _ _ _ _ (fun c m1 z H1 hm1 e1 => by
    cases c with
    | true => exact z H1 hm1 e1
    | false => exact ⟨s, m1, hs.mono e1, hm1, hb.mono _ _ _ _ _ _ (fun d m2 w => cT_ext e1 w) (fun _ _ w => cX_ext e1 w) z⟩) (fun _ _ z => z) q⟩⟩
theorem t_w (h : QW X cl W a TA) : QT X cl W a TA := ⟨h.mono, h.run.pt⟩
theorem t_not (ha : QT X cl W a TA) : QT X cl W (.UnaryOp .Not a pos) (tNot3 TA) :=
  ⟨fun s m k k' x x' hk hx q => ha.mono _ _ _ _ _ _ (fun c m1 z => hk _ _ z) hx q,
   PT.imp (pt_not ha.run) fun σ H Q ⟨s, m, hs, hm, q⟩ => ⟨s, m, hs, hm, ha.mono _ _ _ _ _ _ (fun c m1 z H1 hm1 e1 => z H1 hm1 e1) (fun _ _ z => z) q⟩⟩

/-! ### .. as values -/
def eAnd (A B : TE3) : TE3 := fun s m k x => A s m (fun d m1 => ∃ c, d = .bl c ∧ if c = true then B s m1 k x else k (.bl false) m1) x
def eOr (A B : TE3) : TE3 := fun s m k x => A s m (fun d m1 => ∃ c, d = .bl c ∧ if c = true then k (.bl true) m1 else B s m1 k x) x
def eNot (A : TE3) : TE3 := fun s m k x => A s m (fun d m1 => ∃ c, d = .bl c ∧ k (.bl (!c)) m1) x
theorem q_one {op} (h : QE X cl W a A) : QE X cl W (.BoolOp op [a] pos) A := ⟨h.mono, pe_one h.run⟩
theorem q_and (ha : QE X cl W a A) (hb : QE X cl W (.BoolOp .And (b :: rest) pos) B) : QE X cl W (.BoolOp .And (a :: b :: rest) pos) (eAnd A B) :=
  ⟨fun s m k k' x x' hk hx q => ha.mono _ _ _ _ _ _ (fun d m1 ⟨c, e, z⟩ => ⟨c, e, by
      cases c with
      | true => exact hb.mono _ _ _ _ _ _ hk hx z
      | false => exact hk _ _ z⟩) hx q,
   PE.imp (pe_and ha.run hb.run) fun σ H Q ⟨s, m, hs, hm, q⟩ => ⟨s, m, hs, hm, ha.mono _ _ _ _ _ _ (fun d m1 ⟨c, e, z⟩ v H1 r hm1 e1 => ⟨c, by subst e; exact r, by
    cases c with
    | true => exact ⟨s, m1, hs.mono e1, hm1, hb.mono _ _ _ _ _ _ (fun d m2 w => cE_ext e1 w) (fun _ _ w => cX_ext e1 w) z⟩
    | false => exact z _ H1 rfl hm1 e1⟩) (fun _ _ z => z) q⟩⟩
theorem q_or (ha : QE X cl W a A) (hb : QE X cl W (.BoolOp .Or (b :: rest) pos) B) : QE X cl W (.BoolOp .Or (a :: b :: rest) pos) (eOr A B) :=
  ⟨fun s m k k' x x' hk hx q => ha.mono _ _ _ _ _ _ (fun d m1 ⟨c, e, z⟩ => ⟨c, e, by
      cases c with
      | true => exact hk _ _ z
      | false => exact hb.mono _ _ _ _ _ _ hk hx z⟩) hx q,
   PE.imp (pe_or ha.run hb.run) fun σ H Q ⟨s, m, hs, hm, q⟩ => ⟨s, m, hs, hm, ha.mono _ _ _ _ _ _ (fun d m1 ⟨c, e, z⟩ v H1 r hm1 e1 => ⟨c, by subst e; exact r, by
    cases c with
    | true => exact z _ H1 rfl hm1 e1
    | false => exact ⟨s, m1, hs.mono e1, hm1, hb.mono _ _ _ _ _ _ (fun d m2 w => cE_ext e1 w) (fun _ _ w => cX_ext e1 w) z⟩⟩) (fun _ _ z => z) q⟩⟩
theorem q_not (ha : QE X cl W a A) : QE X cl W (.UnaryOp .Not a pos) (eNot A) :=
  ⟨fun s m k k' x x' hk hx q => ha.mono _ _ _ _ _ _ (fun d m1 ⟨c, e, z⟩ => ⟨c, e, hk _ _ z⟩) hx q,
   PE.imp (pe_not ha.run) fun σ H Q ⟨s, m, hs, hm, q⟩ => ⟨s, m, hs, hm, ha.mono _ _ _ _ _ _ (fun d m1 ⟨c, e, z⟩ v H1 r hm1 e1 => ⟨c, by subst e; exact r, z _ H1 rfl hm1 e1⟩) (fun _ _ z => z) q⟩⟩
def eIf (t : TT3) (A B : TE3) : TE3 := fun s m k x => t s m (fun c m1 => if c = true then A s m1 k x else B s m1 k x) x
theorem q_if (ht : QT X cl W c TA) (ha : QE X cl W a A) (hb : QE X cl W b B) : QE X cl W (.IfExp c a b pos) (eIf TA A B) :=
  ⟨fun s m k k' x x' hk hx q => ht.mono _ _ _ _ _ _ (fun c m1 z => by
      cases c with
      | true => exact ha.mono _ _ _ _ _ _ hk hx z
      | false => exact hb.mono _ _ _ _ _ _ hk hx z) hx q,
   PE.imp (pe_ifExp ht.run ha.run hb.run) fun σ H Q ⟨s, m, hs, hm, q⟩ => ⟨s, m, hs, hm, ht.mono _ _ _ _ _ _ (fun c m1 z H1 hm1 e1 => by
    cases c with
    | true => exact ⟨s, m1, hs.mono e1, hm1, ha.mono _ _ _ _ _ _ (fun d m2 w => cE_ext e1 w) (fun _ _ w => cX_ext e1 w) z⟩
    | false => exact ⟨s, m1, hs.mono e1, hm1, hb.mono _ _ _ _ _ _ (fun d m2 w => cE_ext e1 w) (fun _ _ w => cX_ext e1 w) z⟩) (fun _ _ z => z) q⟩⟩

/-! ### lists of expressions; displays -/
def aNil : TA3 := fun _ m k _ => k [] m
def aCons (A : TE3) (R : TA3) : TA3 := fun s m k x => A s m (fun d m1 => R s m1 (fun ds m2 => k (d :: ds) m2) x) x
theorem qa_nil : QA X cl W [] aNil := ⟨fun s m k k' x x' hk hx q => hk _ _ q, PA.imp pa_nil fun σ H Q ⟨s, m, hs, hm, q⟩ => q _ H rfl hm (Ext.refl H)⟩
theorem qa_cons {R : TA3} (ha : QE X cl W a A) (hr : QA X cl W rest R) (hs : starEach (a :: rest) X.env = (false, eval a X.env) :: starEach rest X.env) : QA X cl W (a :: rest) (aCons A R) :=
  ⟨fun s m k k' x x' hk hx q => ha.mono _ _ _ _ _ _ (fun d m1 z => hr.mono _ _ _ _ _ _ (fun ds m2 w => hk _ _ w) hx z) hx q,
   PA.imp (pa_cons ha.run hr.run hs) fun σ H Q ⟨s, m, hs, hm, q⟩ => ⟨s, m, hs, hm, ha.mono _ _ _ _ _ _ (fun d m1 z v H1 r1 hm1 e1 =>
    ⟨s, m1, hs.mono e1, hm1, hr.mono _ _ _ _ _ _ (fun ds m2 w vs H2 r2 hm2 e2 => w _ _ (Reps.cons (r1.mono e2) r2) hm2 (e1.trans e2)) (fun _ _ w => cX_ext e1 w) z⟩) (fun _ _ z => z) q⟩⟩
variable {R : TA3}
def eTup (R : TA3) : TE3 := fun s m k x => R s m (fun ds m1 => ds.length ≤ sizeLine ∧ k (.tup ds) m1) x
def eLst (R : TA3) : TE3 := fun s m k x => R s m (fun ds m1 => ds.length ≤ sizeLine ∧ ∀ p, m1 p = none → k (.ref p) (mset m1 p (.lst ds))) x
theorem q_tup {j} (hr : QA X cl W rest R) : QE X cl W (.Tuple rest j pos) (eTup R) :=
  ⟨fun s m k k' x x' hk hx q => hr.mono _ _ _ _ _ _ (fun ds m1 z => ⟨z.1, hk _ _ z.2⟩) hx q,
   PE.imp (pe_tup hr.run) fun σ H Q ⟨s, m, hs, hm, q⟩ => ⟨s, m, hs, hm, hr.mono _ _ _ _ _ _ (fun ds m1 z vs H1 r hm1 e1 => ⟨by rw [← r.length]; exact z.1, fun p hp =>
    z.2 _ _ (rep_tup hp r) (hm1.hid hp) (e1.trans (Ext.new hp))⟩) (fun _ _ z => z) q⟩⟩
theorem q_lst (hr : QA X cl W rest R) : QE X cl W (.List rest pos) (eLst R) :=
  ⟨fun s m k k' x x' hk hx q => hr.mono _ _ _ _ _ _ (fun ds m1 z => ⟨z.1, fun p hp => hk _ _ (z.2 p hp)⟩) hx q,
   PE.imp (pe_lst hr.run) fun σ H Q ⟨s, m, hs, hm, q⟩ => ⟨s, m, hs, hm, hr.mono _ _ _ _ _ _ (fun ds m1 z vs H1 r hm1 e1 => ⟨by rw [← r.length]; exact z.1, fun p hp =>
    z.2 p (hm1.free hp) _ _ rfl (new_lst hm1 hp r) (e1.trans (Ext.new hp))⟩) (fun _ _ z => z) q⟩⟩
def eDic : TE3 := fun _ m k _ => ∀ p, m p = none → k (.ref p) (mset m p (.dK []))
theorem q_dic : QE X cl W (.Dict [] [] pos) eDic :=
  ⟨fun s m k k' x x' hk hx q p hp => hk _ _ (q p hp),
   PE.imp pe_dnewK fun σ H Q ⟨s, m, hs, hm, q⟩ p hp => q p (hm.free hp) _ _ rfl (hm.new hp ⟨[], upd_same, rfl⟩) (Ext.new hp)⟩

/-! ### subscripts -/
def fIx : D → D → Mp → K3 → Prop
  | .ref p, y, m, k => (∃ i l d, y = .int i ∧ RL m p l ∧ atI l i = some d ∧ k d m) ∨ ∃ d, DG m p y (some d) ∧ k d m
  | .tup l, .int i, m, k => ∃ d, atI l i = some d ∧ k d m
  | .str z, .int i, m, k => z.length ≤ sizeLine ∧ ∃ c, atI z.cps.toList i = some c ∧ k (.str ⟨#[c]⟩) m
  | _, _, _, _ => False
theorem mono_ix : MonoF fIx := fun u v m k k' hk h => by
  unfold fIx at h ⊢
  split at h <;> first
    | (rcases h with ⟨i, l, d, h0, h1, h2, h3⟩ | ⟨d, h1, h2⟩
       · exact .inl ⟨i, l, d, h0, h1, h2, hk _ _ h3⟩
       · exact .inr ⟨d, h1, hk _ _ h2⟩)
    | (obtain ⟨h0, c, h1, h2⟩ := h; exact ⟨h0, c, h1, hk _ _ h2⟩)
    | (obtain ⟨d, h1, h2⟩ := h; exact ⟨d, h1, hk _ _ h2⟩)
    | exact h.elim
theorem Reps.atI {K : PySem.W.Frag} {H : Hp} {l : List D} {vs : List V} {i : Int} {d : D} (r : Reps K H l vs) (h : L2.atI l i = some d) : ∃ v, L2.atI vs i = some v ∧ Rep K H d v := by
  unfold L2.atI at h ⊢
  rw [r.length] at h
  cases e : ixN vs.length i with
  | none => rw [e] at h; cases h
  | some j => rw [e] at h; exact r.get (by simpa using h)
def rIxDk : R2 := fun x y H Q => ∃ a v, x = .ref a ∧ DGet H a y (some v) ∧ Q v H
theorem ix_dict (hu : X.A.units + 1 < cLine) : IxR X rIxDk := by
  rintro value slice pins s σ H x y v u Q I rx ry ⟨a, w, rfl, g, q⟩ hs
  cases rx
  exact tail_any (dict_typeIs I g) PySem.F.slot_dict_getitem.lookup (d_getItem hu I g ry fun w' s3 I3 rw' => ⟨w, H, I3, rw', q⟩) hs
theorem up_ix (H : Hp) (m : Mp) (u v : D) (x y : V) (Q : VK) (rx : Rep X.K H u x) (ry : Rep X.K H v y) (hm : Ab X.K cl H m) (h : fIx u v m (cE X.K cl H Q)) : rIx X.K x y H Q ∨ rIxDk x y H Q := by
  unfold fIx at h
  split at h
  · rename_i p
    have rx' : x = .ref p := rx
    rcases h with ⟨i, l, d, rfl, h1, h2, h3⟩ | ⟨d, h1, h2⟩
    · have ry' : y = .int i := ry
      obtain ⟨vs, q1, q2⟩ := hm.rl h1
      obtain ⟨v, q3, q4⟩ := q2.atI h2
      exact .inl (.inl ⟨p, vs, i, v, rx', ry', q1, q3, h3 _ _ q4 hm (Ext.refl H)⟩)
    · obtain ⟨ov, g, e⟩ := h1.up hm ry
      rcases e with ⟨e, _⟩ | ⟨d', w, e, rfl, e3⟩
      · cases e
      · cases e
        exact .inr ⟨p, w, rx', g, h2 _ _ e3 hm (Ext.refl H)⟩
  · rename_i l i
    have ry' : y = .int i := ry
    obtain ⟨p, vs, rfl, q1, q2⟩ := rx
    obtain ⟨d, h2, h3⟩ := h
    obtain ⟨v, q3, q4⟩ := q2.atI h2
    exact .inl (.inr (.inl ⟨p, vs, i, v, rfl, ry', q1, q3, h3 _ _ q4 hm (Ext.refl H)⟩))
  · rename_i z i
    have rx' : x = .str z := rx
    have ry' : y = .int i := ry
    obtain ⟨h0, c, h2, h3⟩ := h
    exact .inl (.inr (.inr ⟨z, i, c, rx', ry', h0, h2, h3 _ _ rfl hm (Ext.refl H)⟩))
  · exact h.elim
theorem q_ix (hu : X.A.units + 64 < cLine) (ha : QE X cl W a A) (hb : QE X cl W b B) (hs : PlainIx b) : QE X cl W (.Subscript a b pos) (eBin fIx A B) :=
  ⟨mono_bin mono_ix ha.mono hb.mono, PE.imp (pe_ix (ix_seq.or (ix_dict (by omega))) ha.run hb.run hs) (two_up ha.mono hb.mono up_ix mono_ix)⟩

/-! ### slices -/
def cutD (xs : List D) (lo hi : Option Int) : List D := (xs.drop (HT.sIx xs.length 0 lo)).take (HT.sIx xs.length xs.length hi - HT.sIx xs.length 0 lo)
def fSl (u : D) (lo hi : Option Int) (m : Mp) (k : K3) : Prop := match u with
  | .ref p => ∃ l, RL m p l ∧ ∀ z, m z = none → k (.ref z) (mset m z (.lst (cutD l lo hi)))
  | .tup l => k (.tup (cutD l lo hi)) m
  | .str z => z.length ≤ sizeLine ∧ k (.str (cutS z lo hi)) m
  | _ => False
theorem mono_sl {u : D} {lo hi : Option Int} {m : Mp} {k k' : K3} (hk : ∀ d m, k d m → k' d m) (h : fSl u lo hi m k) : fSl u lo hi m k' := by
  unfold fSl at h ⊢
  split at h
  · obtain ⟨l, h1, h2⟩ := h
    exact ⟨l, h1, fun z hz => hk _ _ (h2 z hz)⟩
  · exact hk _ _ h
  · exact ⟨h.1, hk _ _ h.2⟩
  · exact h.elim
abbrev TO3 := S3 → Mp → (Option Int → Mp → Prop) → X3 → Prop
def oNone : TO3 := fun _ m k _ => k none m
def oSome (A : TE3) : TO3 := fun s m k x => A s m (fun d m1 => ∃ i, d = .int i ∧ k (some i) m1) x
def upO (K : PySem.W.Frag) (cl : Cl) (W : WX) (T : TO3) : TO := fun σ H Q => ∃ s m, RepS K H s σ ∧ Ab K cl H m ∧ T s m (fun o m' => ∀ H', Ab K cl H' m' → Ext H H' → Q o H') (cX K cl W H σ)
def MonoO (T : TO3) : Prop := ∀ s m k k' x x', (∀ d m, k d m → k' d m) → (∀ e m, x e m → x' e m) → T s m k x → T s m k' x'
structure QO (X : Cx) (cl : Cl) (W : WX) (e : Option Expr) (T : TO3) : Prop where
  mono : MonoO T
  run : PO X e (upO X.K cl W T)
theorem PO.imp {X : Cx} {e : Option Expr} {t t' : TO} (h : PO X e t) (i : ∀ σ H Q, t' σ H Q → t σ H Q) : PO X e t' := ⟨fun pins s σ H Q I q => h.run pins s σ H Q I (i σ H Q q)⟩
theorem qo_none : QO X cl W none oNone := ⟨fun s m k k' x x' hk hx q => hk _ _ q, PO.imp po_none fun σ H Q ⟨s, m, hs, hm, q⟩ => q H hm (Ext.refl H)⟩
theorem qo_some (ha : QE X cl W a A) : QO X cl W (some a) (oSome A) :=
  ⟨fun s m k k' x x' hk hx q => ha.mono _ _ _ _ _ _ (fun d m1 ⟨i, e, z⟩ => ⟨i, e, hk _ _ z⟩) hx q,
   PO.imp (po_some ha.run) fun σ H Q ⟨s, m, hs, hm, q⟩ => ⟨s, m, hs, hm, ha.mono _ _ _ _ _ _ (fun d m1 ⟨i, e, z⟩ v H1 r hm1 e1 => ⟨i, by subst e; exact r, z H1 hm1 e1⟩) (fun _ _ z => z) q⟩⟩
def eSl (A : TE3) (L U : TO3) : TE3 := fun s m k x => A s m (fun d m1 => L s m1 (fun lo m2 => U s m2 (fun hi m3 => fSl d lo hi m3 k) x) x) x
theorem Reps.cut {K : PySem.W.Frag} {H : Hp} {l : List D} {vs : List V} (lo hi : Option Int) (r : Reps K H l vs) : Reps K H (cutD l lo hi) (cutV vs lo hi) := by
  unfold cutD cutV
  rw [r.length]
  exact (r.drop _).take _
theorem q_sl {lo hi : Option Expr} {L U : TO3} {p2 : Pos} (ha : QE X cl W a A) (hl : QO X cl W lo L) (hu : QO X cl W hi U) : QE X cl W (.Subscript a (.Slice lo hi none p2) pos) (eSl A L U) :=
  ⟨fun s m k k' x x' hk hx q => ha.mono _ _ _ _ _ _ (fun d m1 z => hl.mono _ _ _ _ _ _ (fun l m2 w => hu.mono _ _ _ _ _ _ (fun h m3 y => mono_sl hk y) hx w) hx z) hx q,
   PE.imp (pe_slice (sl_list.or (sl_tupA.or sl_str)) ha.run hl.run hu.run) fun σ H Q ⟨s, m, hs, hm, q⟩ => ⟨s, m, hs, hm, ha.mono _ _ _ _ _ _ (fun d m1 z v H1 r1 hm1 e1 =>
    ⟨s, m1, hs.mono e1, hm1, hl.mono _ _ _ _ _ _ (fun l m2 w H2 hm2 e2 => ⟨s, m2, hs.mono (e1.trans e2), hm2, hu.mono _ _ _ _ _ _ (fun h m3 y H3 hm3 e3 => by
      have e13 := (e1.trans e2).trans e3
      have r3 := r1.mono (e2.trans e3)
      unfold fSl at y
      split at y
      · rename_i p
        have r' : v = .ref p := r3
        obtain ⟨l, h1, h2⟩ := y
        obtain ⟨vs, q1, q2⟩ := hm3.rl h1
        exact .inl ⟨p, vs, r', q1, fun z hz => h2 z (hm3.free hz) _ _ rfl (new_lst hm3 hz (q2.cut _ _)) (e13.trans (Ext.new hz))⟩
      · rename_i xs
        obtain ⟨p, vs, rfl, q1, q2⟩ := r3
        refine .inr (.inl ⟨p, vs, rfl, q1, fun hw => ?_, fun _ z hz => ?_⟩)
        · have e : cutV vs l h = vs := by
            unfold cutV
            rw [hw.1, hw.2, List.drop_zero, Nat.sub_zero, List.take_length]
          have c := q2.cut l h
          rw [e] at c
          exact y _ _ ⟨p, vs, rfl, q1, c⟩ hm3 e13
        · exact y _ _ (rep_tup hz (q2.cut _ _)) (hm3.hid hz) (e13.trans (Ext.new hz))
      · rename_i t
        have r' : v = .str t := r3
        exact .inr (.inr ⟨t, r', y.1, y.2 _ _ rfl hm3 e13⟩)
      · exact y.elim) (fun _ _ w => cX_ext (e1.trans e2) w) w⟩) (fun _ _ w => cX_ext e1 w) z⟩) (fun _ _ z => z) q⟩⟩
end
end PV

/-! Calls: built-ins, own defs. -/
namespace PV
open PySem L2 PyProof.Rows
section
variable {X : Cx} {cl : Cl} {W : WX} {a b c : Expr} {A B C : TE3} {rest : List Expr} {R : TA3} {pos p : Pos}

theorem t_chain {op op' : CmpOp} {p q : Int → Int → Bool} (ho : OpR X (compareOp op) (rI0 fun i j => .bl (p i j))) (ho' : OpR X (compareOp op') (rI0 fun i j => .bl (q i j))) (n3 : op' ≠ .In) (n4 : op' ≠ .NotIn)
    (ha : QE X cl W a A) (hb : QE X cl W b B) (hc : QE X cl W c C) : QT X cl W (.Compare a [op, op'] [b, c] pos) (tBv (eChain p q A B C)) := by
  have mc : MonoE (eChain p q A B C) := fun s m k k' x x' hk hx h => ha.mono _ _ _ _ _ _ (fun u m1 h1 => hb.mono _ _ _ _ _ _ (fun v m2 ⟨i, j, e1, e2, h2⟩ => ⟨i, j, e1, e2, by
      split at h2
      · rename_i z
        rw [if_pos z]
        exact hc.mono _ _ _ _ _ _ (fun w m3 ⟨l, e3, h3⟩ => ⟨l, e3, hk _ _ h3⟩) hx h2
      · rename_i z
        rw [if_neg z]
        exact hk _ _ h2⟩) hx h1) hx h
  refine ⟨mono_tBv mc, PT.imp (pt_chain ho ho' ha.run hb.run hc.run (show behindInMarks op' c = false from nobehind _ n3 n4)) fun σ H Q q0 => ?_⟩
  obtain ⟨s, m, hs, hm, h⟩ := upT_tBv mc σ H Q q0
  refine ⟨s, m, hs, hm, ha.mono _ _ _ _ _ _ (fun u m1 h1 x H1 rx hm1 e1 => ?_) (fun _ _ z => z) h⟩
  refine ⟨s, m1, hs.mono e1, hm1, hb.mono _ _ _ _ _ _ (fun v m2 h2 y H2 ry hm2 e2 => ?_) (fun _ _ z => cX_ext e1 z) h1⟩
  obtain ⟨i, j, rfl, rfl, h3⟩ := h2
  refine ⟨i, j, rx, ry, p i j, rfl, ?_⟩
  split at h3
  · rename_i z
    rw [if_pos z]
    refine ⟨s, m2, hs.mono (e1.trans e2), hm2, hc.mono _ _ _ _ _ _ (fun w m3 ⟨l, e3, h4⟩ z H3 rz hm3 e4 => ?_) (fun _ _ z => cX_ext (e1.trans e2) z) h3⟩
    subst e3
    have ry' : y = .int j := ry
    exact ⟨j, l, ry', rz, h4 _ _ rfl hm3 ((e1.trans e2).trans e4)⟩
  · rename_i z
    rw [if_neg z]
    exact h3 _ _ rfl hm2 (e1.trans e2)

/-! ### a built-in called -/
def eCB (f : List D → Mp → K3 → Prop) (R : TA3) : TE3 := fun s m k x => R s m (fun ds m1 => f ds m1 k) x
def MonoC (f : List D → Mp → K3 → Prop) : Prop := ∀ ds m k k', (∀ d m, k d m → k' d m) → f ds m k → f ds m k'
theorem mono_CB {f : List D → Mp → K3 → Prop} (hf : MonoC f) (hr : MonoA R) : MonoE (eCB f R) := fun s m k k' x x' hk hx h => hr _ _ _ _ _ _ (fun ds m1 z => hf _ _ _ _ hk z) hx h
def UpC (X : Cx) (cl : Cl) (f : List D → Mp → K3 → Prop) (r : List V → Hp → VK → Prop) : Prop :=
  ∀ (H : Hp) (m : Mp) (ds : List D) (vs : List V) (Q : VK), Reps X.K H ds vs → Ab X.K cl H m → f ds m (cE X.K cl H Q) → r vs H Q
theorem up_CB {f : List D → Mp → K3 → Prop} {r : List V → Hp → VK → Prop} (hr : MonoA R) (mf : MonoC f) (u : UpC X cl f r) (σ : L2.St) (H : Hp) (Q : VK) (h : upE X.K cl W (eCB f R) σ H Q) : tCB r (upA X.K cl W R) σ H Q := by
  obtain ⟨s, m, hs, hm, h⟩ := h
  exact ⟨s, m, hs, hm, hr _ _ _ _ _ _ (fun ds m1 z vs H1 r1 hm1 e1 => u H1 m1 ds vs Q r1 hm1 (mf _ _ _ _ (fun d m w => cE_ext e1 w) z)) (fun _ _ z => z) h⟩
theorem q_cb {x : Str} {id : String} {f : List D → Mp → K3 → Prop} {r : List V → Hp → VK → Prop} (hc : CallR X (.builtin id) r) (u : UpC X cl f r) (mf : MonoC f)
    (hv : bootBuiltins x = some (.builtin id)) (hn : x ≠ "__name__") (hdb : (x == ("__debug__" : Str)) = false)
    (hg : Gl X x) (hm : X.mg x = none) (ha : QA X cl W (a :: rest) R) (he : starEach (a :: rest) X.env = (false, eval a X.env) :: starEach rest X.env) (hpl : (backTo pos (starEach rest X.env)).any (·.1) = false) :
    QE X cl W (.Call (.Name x p) (a :: rest) [] pos) (eCB f R) :=
  ⟨mono_CB mf ha.mono, PE.imp (pe_callB hc hg hm hv ha.run hn hdb he hpl) (up_CB ha.mono mf u)⟩
theorem q_cty {x : Str} {T : String} {f : List D → Mp → K3 → Prop} {r : List V → Hp → VK → Prop} (hc : CallR X (.type T) r) (u : UpC X cl f r) (mf : MonoC f)
    (hv : bootBuiltins x = some (.type T)) (hn : x ≠ "__name__") (hdb : (x == ("__debug__" : Str)) = false)
    (hg : Gl X x) (hm : X.mg x = none) (ha : QA X cl W (a :: rest) R) (he : starEach (a :: rest) X.env = (false, eval a X.env) :: starEach rest X.env) (hpl : (backTo pos (starEach rest X.env)).any (·.1) = false) :
    QE X cl W (.Call (.Name x p) (a :: rest) [] pos) (eCB f R) :=
  ⟨mono_CB mf ha.mono, PE.imp (pe_callTy hc hg hm hv ha.run hn hdb he hpl) (up_CB ha.mono mf u)⟩

/-- len -/
def fLen : List D → Mp → K3 → Prop
  | [.str z], m, k => z.length ≤ sizeLine ∧ k (.int z.length) m
  | [.tup l], m, k => k (.int l.length) m
  | [.ref q], m, k => (∃ l, RL m q l ∧ k (.int l.length) m) ∨ ∃ kvs, (m q = some (.dK kvs) ∨ m q = some (.rdK kvs)) ∧ k (.int kvs.length) m
  | _, _, _ => False
theorem mono_len : MonoC fLen := fun ds m k k' hk h => by
  unfold fLen at h ⊢
  split at h
  · exact ⟨h.1, hk _ _ h.2⟩
  · exact hk _ _ h
  · rcases h with ⟨l, h1, h2⟩ | ⟨l, h1, h2⟩
    · exact .inl ⟨l, h1, hk _ _ h2⟩
    · exact .inr ⟨l, h1, hk _ _ h2⟩
  · exact h.elim
theorem reps1 {K : PySem.W.Frag} {H : Hp} {d : D} {vs : List V} (h : Reps K H [d] vs) : ∃ v, vs = [v] ∧ Rep K H d v := by
  obtain ⟨v, r, rfl, h1, h2⟩ := h
  cases h2
  exact ⟨v, rfl, h1⟩
theorem reps2 {K : PySem.W.Frag} {H : Hp} {d e : D} {vs : List V} (h : Reps K H [d, e] vs) : ∃ v w, vs = [v, w] ∧ Rep K H d v ∧ Rep K H e w := by
  obtain ⟨v, r, rfl, h1, h2⟩ := h
  obtain ⟨w, rfl, h3⟩ := reps1 h2
  exact ⟨v, w, rfl, h1, h3⟩
theorem call_lenDk : CallR X (.builtin "len") (fun xs H Q => ∃ a kvs, xs = [V.ref a] ∧ L2.Rd H a (.dK kvs) ∧ Q (.int kvs.length) H) := by
  intro pins s σ H xs us Q I r h
  obtain ⟨a, kvs, rfl, e, q⟩ := h
  rw [Vals.ref1 r]
  exact d_len I e fun t s' I' => ⟨.int kvs.length, H, I', ⟨t, rfl⟩, q⟩
theorem up_len : UpC X cl fLen (fun xs H Q => (∃ x n, xs = [x] ∧ LenV X.K x H n ∧ Q (.int n) H) ∨ ∃ a kvs, xs = [V.ref a] ∧ L2.Rd H a (.dK kvs) ∧ Q (.int kvs.length) H) := fun H m ds vs Q r hm h => by
  unfold fLen at h
  split at h
  · rename_i z
    obtain ⟨v, rfl, h1⟩ := reps1 r
    cases h1
    exact .inl ⟨_, z.length, rfl, ⟨h.1, rfl⟩, h.2 _ _ rfl hm (Ext.refl H)⟩
  · rename_i l
    obtain ⟨v, rfl, a, ws, rfl, h1, h2⟩ := reps1 r
    exact .inl ⟨_, l.length, rfl, .inr ⟨ws, h1, h2.length⟩, h _ _ rfl hm (Ext.refl H)⟩
  · rename_i q
    obtain ⟨v, rfl, h1⟩ := reps1 r
    cases h1
    rcases h with ⟨l, h1, h2⟩ | ⟨l, h1, h2⟩
    · obtain ⟨ws, q1, q2⟩ := hm.rl h1
      exact .inl ⟨_, l.length, rfl, .inl ⟨ws, q1, q2.length⟩, h2 _ _ rfl hm (Ext.refl H)⟩
    · rcases h1 with h1 | h1
      · obtain ⟨ws, q1, q2⟩ := hm.1 _ _ h1
        exact .inr ⟨_, ws, rfl, .inl q1, by rw [← q2.length]; exact h2 _ _ rfl hm (Ext.refl H)⟩
      · obtain ⟨o, ws, q1, q2⟩ := hm.1 _ _ h1
        exact .inr ⟨_, ws, rfl, .inr ⟨o, q1⟩, by rw [← q2.length]; exact h2 _ _ rfl hm (Ext.refl H)⟩
  · exact h.elim
theorem q_len (hg : Gl X "len") (hm : X.mg "len" = none) (ha : QA X cl W (a :: rest) R) (he : starEach (a :: rest) X.env = (false, eval a X.env) :: starEach rest X.env) (hpl : (backTo pos (starEach rest X.env)).any (·.1) = false) :
    QE X cl W (.Call (.Name "len" p) (a :: rest) [] pos) (eCB fLen R) := q_cb (call_len.or call_lenDk) up_len mono_len PySem.boot_len (by decide) (by decide) hg hm ha he hpl
/-- ord of one sign -/
def fOrd : List D → Mp → K3 → Prop := fun ds m k => ∃ z : Str, ds = [.str z] ∧ z.length = 1 ∧ k (.int (z.cps.getD 0 0 : Nat)) m
theorem q_ord (hg : Gl X "ord") (hm : X.mg "ord" = none) (ha : QA X cl W (a :: rest) R) (he : starEach (a :: rest) X.env = (false, eval a X.env) :: starEach rest X.env) (hpl : (backTo pos (starEach rest X.env)).any (·.1) = false) :
    QE X cl W (.Call (.Name "ord" p) (a :: rest) [] pos) (eCB fOrd R) :=
  q_cb call_ord (fun H m ds vs Q r hm ⟨z, e, h1, h2⟩ => by
    subst e
    obtain ⟨v, rfl, q⟩ := reps1 r
    cases q
    exact ⟨z, rfl, h1, h2 _ _ rfl hm (Ext.refl H)⟩) (fun ds m k k' hk ⟨z, e, h1, h2⟩ => ⟨z, e, h1, hk _ _ h2⟩) (by decide +kernel) (by decide) (by decide) hg hm ha he hpl
/-- abs, min, max of ints -/
def fAbs : List D → Mp → K3 → Prop := fun ds m k => ∃ i : Int, ds = [.int i] ∧ k (.int (if i < 0 then -i else i)) m
def fMax2 : List D → Mp → K3 → Prop := fun ds m k => ∃ i j : Int, ds = [.int i, .int j] ∧ k (.int (if j > i then j else i)) m
def fMin2 : List D → Mp → K3 → Prop := fun ds m k => ∃ i j : Int, ds = [.int i, .int j] ∧ k (.int (if j < i then j else i)) m
theorem q_abs (hg : Gl X "abs") (hm : X.mg "abs" = none) (ha : QA X cl W (a :: rest) R) (he : starEach (a :: rest) X.env = (false, eval a X.env) :: starEach rest X.env) (hpl : (backTo pos (starEach rest X.env)).any (·.1) = false) :
    QE X cl W (.Call (.Name "abs" p) (a :: rest) [] pos) (eCB fAbs R) :=
  q_cb call_abs (fun H m ds vs Q r hm ⟨i, e, h2⟩ => by
    subst e
    obtain ⟨v, rfl, q⟩ := reps1 r
    cases q
    exact ⟨i, rfl, h2 _ _ rfl hm (Ext.refl H)⟩) (fun ds m k k' hk ⟨z, e, h2⟩ => ⟨z, e, hk _ _ h2⟩) (by decide +kernel) (by decide) (by decide) hg hm ha he hpl
theorem q_max2 (hc : X.calm = true) (hg : Gl X "max") (hm : X.mg "max" = none) (ha : QA X cl W (a :: rest) R) (he : starEach (a :: rest) X.env = (false, eval a X.env) :: starEach rest X.env) (hpl : (backTo pos (starEach rest X.env)).any (·.1) = false) :
    QE X cl W (.Call (.Name "max" p) (a :: rest) [] pos) (eCB fMax2 R) :=
  q_cb (call_max2 hc) (fun H m ds vs Q r hm ⟨i, j, e, h2⟩ => by
    subst e
    obtain ⟨v, w, rfl, q, q'⟩ := reps2 r
    cases q
    cases q'
    exact ⟨i, j, rfl, h2 _ _ rfl hm (Ext.refl H)⟩) (fun ds m k k' hk ⟨z, j, e, h2⟩ => ⟨z, j, e, hk _ _ h2⟩) (by decide +kernel) (by decide) (by decide) hg hm ha he hpl
theorem q_min2 (hc : X.calm = true) (hg : Gl X "min") (hm : X.mg "min" = none) (ha : QA X cl W (a :: rest) R) (he : starEach (a :: rest) X.env = (false, eval a X.env) :: starEach rest X.env) (hpl : (backTo pos (starEach rest X.env)).any (·.1) = false) :
    QE X cl W (.Call (.Name "min" p) (a :: rest) [] pos) (eCB fMin2 R) :=
  q_cb (call_min2 hc) (fun H m ds vs Q r hm ⟨i, j, e, h2⟩ => by
    subst e
    obtain ⟨v, w, rfl, q, q'⟩ := reps2 r
    cases q
    cases q'
    exact ⟨i, j, rfl, h2 _ _ rfl hm (Ext.refl H)⟩) (fun ds m k k' hk ⟨z, j, e, h2⟩ => ⟨z, j, e, hk _ _ h2⟩) (by decide +kernel) (by decide) (by decide) hg hm ha he hpl
/-- int of an int, a truth; str of an int -/
def fInt : List D → Mp → K3 → Prop := fun ds m k => (∃ i : Int, ds = [.int i] ∧ k (.int i) m) ∨ (∃ b : Bool, ds = [.bl b] ∧ k (.int (if b then 1 else 0)) m) ∨ ∃ (z : Str) (n : Int), ds = [.str z] ∧ PySem.intText? z = some n ∧ z.length ≤ 640 ∧ k (.int n) m
def fStr : List D → Mp → K3 → Prop := fun ds m k => (∃ i : Int, ds = [.int i] ∧ i.natAbs.log2 < 1920 ∧ k (.str (toString i)) m) ∨ ∃ b : Bool, ds = [.bl b] ∧ k (.str (if b then "True" else "False")) m
theorem call_str_bl : CallR X (.type "str") (fun xs H Q => ∃ b, xs = [.bl b] ∧ Q (.str (if b then "True" else "False")) H) := fun pins s σ H xs us Q I r h => by
  obtain ⟨b, rfl, q⟩ := h
  obtain ⟨u, rfl, r1⟩ := vals1 r
  cases r1
  exact PySem.P.str_of_bool ⟨.str _, H, I.tok _, ⟨_, rfl⟩, q⟩
theorem q_int1 (hg : Gl X "int") (hm : X.mg "int" = none) (ha : QA X cl W (a :: rest) R) (he : starEach (a :: rest) X.env = (false, eval a X.env) :: starEach rest X.env) (hpl : (backTo pos (starEach rest X.env)).any (·.1) = false) :
    QE X cl W (.Call (.Name "int" p) (a :: rest) [] pos) (eCB fInt R) :=
  q_cty (call_int1.or call_int_str) (fun H m ds vs Q r hm h => by
    rcases h with ⟨i, e, h2⟩ | ⟨i, e, h2⟩ | ⟨z, n, e, h1, h3, h2⟩
    · subst e
      obtain ⟨v, rfl, q⟩ := reps1 r
      cases q
      exact .inl (.inl ⟨i, rfl, h2 _ _ rfl hm (Ext.refl H)⟩)
    · subst e
      obtain ⟨v, rfl, q⟩ := reps1 r
      cases q
      exact .inl (.inr ⟨i, rfl, h2 _ _ rfl hm (Ext.refl H)⟩)
    · subst e
      obtain ⟨v, rfl, q⟩ := reps1 r
      cases q
      exact .inr ⟨z, n, rfl, h1, h3, h2 _ _ rfl hm (Ext.refl H)⟩) (fun ds m k k' hk h => by
    rcases h with ⟨i, e, h2⟩ | ⟨i, e, h2⟩ | ⟨z, n, e, h1, h3, h2⟩
    · exact .inl ⟨i, e, hk _ _ h2⟩
    · exact .inr (.inl ⟨i, e, hk _ _ h2⟩)
    · exact .inr (.inr ⟨z, n, e, h1, h3, hk _ _ h2⟩)) (by decide +kernel) (by decide) (by decide) hg hm ha he hpl
theorem q_str1 (hg : Gl X "str") (hm : X.mg "str" = none) (ha : QA X cl W (a :: rest) R) (he : starEach (a :: rest) X.env = (false, eval a X.env) :: starEach rest X.env) (hpl : (backTo pos (starEach rest X.env)).any (·.1) = false) :
    QE X cl W (.Call (.Name "str" p) (a :: rest) [] pos) (eCB fStr R) :=
  q_cty (call_str_int.or call_str_bl) (fun H m ds vs Q r hm h => by
    rcases h with ⟨i, e, h1, h2⟩ | ⟨i, e, h2⟩
    · subst e
      obtain ⟨v, rfl, q⟩ := reps1 r
      cases q
      exact .inl ⟨i, rfl, h1, h2 _ _ rfl hm (Ext.refl H)⟩
    · subst e
      obtain ⟨v, rfl, q⟩ := reps1 r
      cases q
      exact .inr ⟨i, rfl, h2 _ _ rfl hm (Ext.refl H)⟩) (fun ds m k k' hk h => by
    rcases h with ⟨z, e, h1, h2⟩ | ⟨z, e, h2⟩
    · exact .inl ⟨z, e, h1, hk _ _ h2⟩
    · exact .inr ⟨z, e, hk _ _ h2⟩) (by decide +kernel) (by decide) (by decide) hg hm ha he hpl
/-- tuple(..), list(..) of a list, a tuple -/
def fTuple : List D → Mp → K3 → Prop := fun ds m k => (∃ q l, ds = [.ref q] ∧ RL m q l ∧ k (.tup l) m) ∨ ∃ l, ds = [.tup l] ∧ k (.tup l) m
def fList : List D → Mp → K3 → Prop := fun ds m k => ∃ l, ((∃ q, ds = [.ref q] ∧ RL m q l) ∨ ds = [.tup l]) ∧ ∀ z, m z = none → k (.ref z) (mset m z (.lst l))
theorem q_tuple (hg : Gl X "tuple") (hm : X.mg "tuple" = none) (ha : QA X cl W (a :: rest) R) (he : starEach (a :: rest) X.env = (false, eval a X.env) :: starEach rest X.env) (hpl : (backTo pos (starEach rest X.env)).any (·.1) = false) :
    QE X cl W (.Call (.Name "tuple" p) (a :: rest) [] pos) (eCB fTuple R) :=
  q_cty call_tuple_of (fun H m ds vs Q r hm h => by
    rcases h with ⟨q, l, e, h1, h2⟩ | ⟨l, e, h2⟩
    · subst e
      obtain ⟨v, rfl, q⟩ := reps1 r
      cases q
      obtain ⟨ws, q1, q2⟩ := hm.rl h1
      exact ⟨_, ws, rfl, .inl ⟨q1, fun z hz => h2 _ _ (rep_tup hz q2) (hm.hid hz) (Ext.new hz)⟩⟩
    · subst e
      obtain ⟨v, rfl, q⟩ := reps1 r
      have q' := q
      obtain ⟨u, ws, rfl, q1, q2⟩ := q
      exact ⟨_, ws, rfl, .inr ⟨q1, h2 _ _ q' hm (Ext.refl H)⟩⟩) (fun ds m k k' hk h => by
    rcases h with ⟨i, l, e, h1, h2⟩ | ⟨i, e, h2⟩
    · exact .inl ⟨i, l, e, h1, hk _ _ h2⟩
    · exact .inr ⟨i, e, hk _ _ h2⟩) (by decide +kernel) (by decide) (by decide) hg hm ha he hpl
theorem q_list (hg : Gl X "list") (hm : X.mg "list" = none) (ha : QA X cl W (a :: rest) R) (he : starEach (a :: rest) X.env = (false, eval a X.env) :: starEach rest X.env) (hpl : (backTo pos (starEach rest X.env)).any (·.1) = false) :
    QE X cl W (.Call (.Name "list" p) (a :: rest) [] pos) (eCB fList R) :=
  q_cty call_list_of (fun H m ds vs Q r hm h => by
    obtain ⟨l, h1, h2⟩ := h
    rcases h1 with ⟨q, e, h1⟩ | e
    · subst e
      obtain ⟨v, rfl, q⟩ := reps1 r
      cases q
      obtain ⟨ws, q1, q2⟩ := hm.rl h1
      exact ⟨_, ws, rfl, .inl q1, fun z hz => h2 z (hm.free hz) _ _ rfl (new_lst hm hz q2) (Ext.new hz)⟩
    · subst e
      obtain ⟨v, rfl, u, ws, rfl, q1, q2⟩ := reps1 r
      exact ⟨_, ws, rfl, .inr q1, fun z hz => h2 z (hm.free hz) _ _ rfl (new_lst hm hz q2) (Ext.new hz)⟩) (fun ds m k k' hk ⟨l, h1, h2⟩ => ⟨l, h1, fun z hz => hk _ _ (h2 z hz)⟩) (by decide +kernel) (by decide) (by decide) hg hm ha he hpl
/-- divmod, any positive divisor below 2 ^ 9000 -/
theorem cr_dvm : CallR X (.builtin "divmod") (fun zs G R => ∃ a b : Int, zs = [.int a, .int b] ∧ CDivW a b ∧ ∀ z, G z = none → R (.ref z) (upd G z (.tup [.int (a / b), .int (a % b)]))) := by
  intro pins s σ G zs us R inv rr hh
  obtain ⟨a, b, rfl, hc, rest⟩ := hh
  have hb0 : (0 : Int) < b := hc.1
  obtain ⟨_, _, rfl, ⟨ta, rfl⟩, ⟨tb, rfl⟩⟩ := vals2 rr
  refine PyProof.Rows.divmod_int (by omega) ?_ (.inl (PyProof.noPylong_of_log2 hc.2))
  have new : G s.heap.objs.size = none := inv.hok.fresh (Nat.le_refl _)
  rw [show a.fdiv b = a / b from Int.fdiv_eq_ediv_of_nonneg a (by omega), show a.fmod b = a % b from Int.fmod_eq_emod_of_nonneg a (by omega)]
  refine ⟨.ref s.heap.objs.size, _, inv.laid (fun c o e => Heap.get?_push_of_some _ e) (Nat.le_refl _) ?_, rfl, rest _ new⟩
  exact ⟨(by show 2 ≤ sizeLine; decide), [.int (a / b) s.toks, .int (a % b) (s.toks + 1)], .cons ⟨_, rfl⟩ (.cons ⟨_, rfl⟩ .nil), _, Heap.get?_push_size s.heap rfl, rfl, 0, rfl⟩
/-- divmod -/
def fDivmod : List D → Mp → K3 → Prop := fun ds m k => ∃ i j : Int, ds = [.int i, .int j] ∧ CDivW i j ∧ k (.tup [.int (i / j), .int (i % j)]) m
theorem q_divmod (hg : Gl X "divmod") (hm : X.mg "divmod" = none) (ha : QA X cl W (a :: rest) R) (he : starEach (a :: rest) X.env = (false, eval a X.env) :: starEach rest X.env) (hpl : (backTo pos (starEach rest X.env)).any (·.1) = false) :
    QE X cl W (.Call (.Name "divmod" p) (a :: rest) [] pos) (eCB fDivmod R) :=
  q_cb cr_dvm (fun H m ds vs Q r hm ⟨i, j, e, h1, h2⟩ => by
    subst e
    obtain ⟨v, w, rfl, q, q'⟩ := reps2 r
    cases q
    cases q'
    exact ⟨i, j, rfl, h1, fun p hp => h2 _ _ (rep_tup hp ⟨_, _, rfl, rfl, _, _, rfl, rfl, rfl⟩) (hm.hid hp) (Ext.new hp)⟩) (fun ds m k k' hk ⟨z, j, e, h1, h2⟩ => ⟨z, j, e, h1, hk _ _ h2⟩) (by decide +kernel) (by decide) (by decide) hg hm ha he hpl
/-- sum of a list of ints -/
def fSum : List D → Mp → K3 → Prop := fun ds m k => ∃ q, ∃ ns : List Int, ds = [.ref q] ∧ RL m q (ns.map D.int) ∧ k (.int ns.sum) m
theorem q_sum (hc : X.calm = true) (hg : Gl X "sum") (hm : X.mg "sum" = none) (ha : QA X cl W (a :: rest) R) (he : starEach (a :: rest) X.env = (false, eval a X.env) :: starEach rest X.env) (hpl : (backTo pos (starEach rest X.env)).any (·.1) = false) :
    QE X cl W (.Call (.Name "sum" p) (a :: rest) [] pos) (eCB fSum R) :=
  q_cb (cr_sum hc) (fun H m ds vs Q r hm ⟨i, ns, e, h1, h2⟩ => by
    subst e
    obtain ⟨v, rfl, q⟩ := reps1 r
    cases q
    obtain ⟨ws, q1, q2⟩ := hm.rl h1
    have e := q2.ints
    subst e
    exact ⟨i, ns, rfl, q1, h2 _ _ rfl hm (Ext.refl H)⟩) (fun ds m k k' hk ⟨z, j, e, h1, h2⟩ => ⟨z, j, e, h1, hk _ _ h2⟩) (by decide +kernel) (by decide) (by decide) hg hm ha he hpl

/-- max, min of a list of ints -/
def fMax1 : List D → Mp → K3 → Prop := fun ds m k => ∃ q, ∃ ns : List Int, ds = [.ref q] ∧ RL m q (ns.map D.int) ∧ 0 < ns.length ∧ ∀ i, i ∈ ns → (∀ y, y ∈ ns → y ≤ i) → k (.int i) m
def fMin1 : List D → Mp → K3 → Prop := fun ds m k => ∃ q, ∃ ns : List Int, ds = [.ref q] ∧ RL m q (ns.map D.int) ∧ 0 < ns.length ∧ ∀ i, i ∈ ns → (∀ y, y ∈ ns → i ≤ y) → k (.int i) m
theorem q_max1 (hc : X.calm = true) (hg : Gl X "max") (hm : X.mg "max" = none) (ha : QA X cl W (a :: rest) R) (he : starEach (a :: rest) X.env = (false, eval a X.env) :: starEach rest X.env) (hpl : (backTo pos (starEach rest X.env)).any (·.1) = false) :
    QE X cl W (.Call (.Name "max" p) (a :: rest) [] pos) (eCB fMax1 R) :=
  q_cb (cr_max hc) (fun H m ds vs Q r hm ⟨i, ns, e, h1, h0, h2⟩ => by
    subst e
    obtain ⟨v, rfl, q⟩ := reps1 r
    cases q
    obtain ⟨ws, q1, q2⟩ := hm.rl h1
    have e := q2.ints
    subst e
    exact ⟨i, ns, rfl, q1, h0, fun j j1 j2 => h2 j j1 j2 _ _ rfl hm (Ext.refl H)⟩) (fun ds m k k' hk ⟨z, j, e, h1, h0, h2⟩ => ⟨z, j, e, h1, h0, fun j j1 j2 => hk _ _ (h2 j j1 j2)⟩) (by decide +kernel) (by decide) (by decide) hg hm ha he hpl
theorem q_min1 (hc : X.calm = true) (hg : Gl X "min") (hm : X.mg "min" = none) (ha : QA X cl W (a :: rest) R) (he : starEach (a :: rest) X.env = (false, eval a X.env) :: starEach rest X.env) (hpl : (backTo pos (starEach rest X.env)).any (·.1) = false) :
    QE X cl W (.Call (.Name "min" p) (a :: rest) [] pos) (eCB fMin1 R) :=
  q_cb (cr_min hc) (fun H m ds vs Q r hm ⟨i, ns, e, h1, h0, h2⟩ => by
    subst e
    obtain ⟨v, rfl, q⟩ := reps1 r
    cases q
    obtain ⟨ws, q1, q2⟩ := hm.rl h1
    have e := q2.ints
    subst e
    exact ⟨i, ns, rfl, q1, h0, fun j j1 j2 => h2 j j1 j2 _ _ rfl hm (Ext.refl H)⟩) (fun ds m k k' hk ⟨z, j, e, h1, h0, h2⟩ => ⟨z, j, e, h1, h0, fun j j1 j2 => hk _ _ (h2 j j1 j2)⟩) (by decide +kernel) (by decide) (by decide) hg hm ha he hpl

/-! ### isinstance with a built-in class -/
inductive TyD (m : Mp) : D → String → Prop where
  | non : TyD m .non "NoneType"
  | bl (b : Bool) : TyD m (.bl b) "bool"
  | int (b : Int) : TyD m (.int b) "int"
  | str (b : Str) : TyD m (.str b) "str"
  | tup (b : List D) : TyD m (.tup b) "tuple"
  | lst {p : Addr} {l : List D} (h : RL m p l) : TyD m (.ref p) "list"
  | dK {p : Addr} {l : List (Key × D)} (h : m p = some (.dK l)) : TyD m (.ref p) "dict"
  | dT {p : Addr} {l : List (List Key × D)} (h : m p = some (.dT l)) : TyD m (.ref p) "dict"
theorem TyD.up {m : Mp} {d : D} {t : String} {H : Hp} {v : V} (h : TyD m d t) (r : Rep X.K H d v) (hm : Ab X.K cl H m) : TyX X.K H v (.type t) := by
  cases h with
  | non => cases r; exact .base .non
  | bl b => cases r; exact .base (.bl b)
  | int b => cases r; exact .base (.int b)
  | str b => cases r; exact .base (.str b)
  | tup l =>
    obtain ⟨a, vs, rfl, h1, _⟩ := r
    rcases h1 with (h1 | ⟨o, h1⟩) | ⟨o, its, n, h1, h2, _⟩
    · exact .base (.tup h1)
    · exact .fTuple h1
    · exact .kTuple h1 h2
  | lst h =>
    cases r
    rcases h with h | h | h
    · obtain ⟨vs, h1, _⟩ := hm.1 _ _ h
      exact .base (.lst h1)
    · obtain ⟨o, vs, h1, _⟩ := hm.1 _ _ h
      exact .base (.frz h1)
    · obtain ⟨vs, ⟨o, its, n, h1, h2, _⟩, _⟩ := hm.2 _ _ h
      exact .kList h1 h2
  | dK h =>
    cases r
    obtain ⟨vs, h1, _⟩ := hm.1 _ _ h
    exact .base (.dK h1)
  | dT h =>
    cases r
    obtain ⟨vs, h1, _⟩ := hm.1 _ _ h
    exact .base (.dT h1)
/-- isinstance(x, T), T a built-in class -/
def fIsi : List D → Mp → K3 → Prop := fun ds m k => ∃ d T t b, ds = [d, .ty T] ∧ TyD m d t ∧ kitB t T = some b ∧ k (.bl b) m
theorem q_isi (hg : Gl X "isinstance") (hm : X.mg "isinstance" = none) (ha : QA X cl W (a :: rest) R) (he : starEach (a :: rest) X.env = (false, eval a X.env) :: starEach rest X.env) (hpl : (backTo pos (starEach rest X.env)).any (·.1) = false) :
    QE X cl W (.Call (.Name "isinstance" p) (a :: rest) [] pos) (eCB fIsi R) :=
  q_cb call_isi (fun H m ds vs Q r hm ⟨d, T, t, b, e, h1, h2, h3⟩ => by
    subst e
    obtain ⟨v, w, rfl, q, q'⟩ := reps2 r
    cases q'
    exact ⟨v, .ty T, .type t, .type T, b, rfl, .ty T, h1.up q hm, kit_ty h2, h3 _ _ rfl hm (Ext.refl H)⟩) (fun ds m k k' hk ⟨d, T, t, b, e, h1, h2, h3⟩ => ⟨d, T, t, b, e, h1, h2, hk _ _ h3⟩) (by decide +kernel) (by decide) (by decide) hg hm ha he hpl
/-- a built-in class as a value -/
theorem q_ty {x : Str} {T : String} (hv : bootBuiltins x = some (.type T)) (hn : x ≠ "__name__") (hdb : (x == ("__debug__" : Str)) = false) (hg : Gl X x) (hm : X.mg x = none) : QE X cl W (.Name x p) (eLit (.ty T)) :=
  lit_of (pe_bltn (v := V.ty T) hg hm hv rfl hn hdb) fun _ => rfl

/-! ### own defs -/
/-- a def's promise: al: what is given beside; lev: how many calls stand within one another beneath it -/
structure FSpec where
  al : Type
  lev : al → Nat
  pre : al → List D → Mp → Prop
  post : al → Mp → D → Mp → Prop
  exc : al → Mp → Xc → Mp → Prop
def liftSp (K : PySem.W.Frag) (cl : Cl) (S : FSpec) (L : Nat) : Sp := fun vs H Q E => ∃ ds m a, Reps K H ds vs ∧ Ab K cl H m ∧ S.lev a < L ∧ S.pre a ds m ∧ (∀ d m', S.post a m d m' → cE K cl H Q d m') ∧
  ∀ x m', S.exc a m x m' → ∀ c dd H', RepX K cl H' x c dd → Ab K cl H' m' → Ext H H' → E c dd H'
/-- which promises stand, by the defs' numbers -/
abbrev Tb := Nat → FSpec → Prop
def callS (T : Tb) (L : Nat) (i : Nat) (ds : List D) (m : Mp) (k : K3) (x : X3) : Prop :=
  ∃ S, T i S ∧ ∃ a : S.al, S.lev a < L ∧ S.pre a ds m ∧ (∀ d m', S.post a m d m' → k d m') ∧ ∀ e m', S.exc a m e m' → x e m'
def eCall (T : Tb) (L : Nat) (i : Nat) (R : TA3) : TE3 := fun s m k x => R s m (fun ds m1 => callS T L i ds m1 k x) x
/-- what stands of a def in the written part, and its promises at a level -/
structure Kn (P : Program) (w : World) (K : PySem.W.Frag) (mg : Str → Option Value) (base : Heap) (cl : Cl) (T : Tb) (L : Nat) (i : Nat) (f : Str) (fa : Addr) : Prop where
  at_ : mg f = some (.ref fa)
  kp : PySem.W.keepIn K (.ref fa) = true
  fn : ∀ S, T i S → ∃ fd ps, FnOk P w K mg base (L2.CX P w) L fa fd ps (liftSp K cl S L) ∧ Binds K fd ps []
structure Known (X : Cx) (cl : Cl) (T : Tb) (L : Nat) (i : Nat) (f : Str) (fa : Addr) : Prop where
  kn : Kn X.prog X.w X.K X.mg X.base cl T L i f fa
  room : Room L X.A
theorem mono_call {T : Tb} {L i : Nat} (hr : MonoA R) : MonoE (eCall T L i R) := fun s m k k' x x' hk hx h => hr _ _ _ _ _ _ (fun ds m1 ⟨S, t, a, h1, h2, h3, h4⟩ => ⟨S, t, a, h1, h2, fun d m' z => hk _ _ (h3 d m' z), fun e m' z => hx _ _ (h4 e m' z)⟩) hx h
theorem q_call {T : Tb} {L i : Nat} {f : Str} {fa : Addr} (tk : Takes X W) (hf : Known X cl T L i f fa) (hg : Gl X f) (hdb : (f == ("__debug__" : Str)) = false)
    (ha : QA X cl W (a :: rest) R) (he : starEach (a :: rest) X.env = (false, eval a X.env) :: starEach rest X.env) (hpl : (backTo pos (starEach rest X.env)).any (·.1) = false) :
    QE X cl W (.Call (.Name f p) (a :: rest) [] pos) (eCall T L i R) := by
  refine ⟨mono_call ha.mono, ⟨fun pins s0 σ H Q I h => ?_⟩⟩
  obtain ⟨s, m, hs, hm, h⟩ := h
  refine wpAny_Call_Name_kw (ld_glob I hg hf.kn.at_ ?_ hdb)
  have hA : upA X.K cl W R σ H (fun vs H1 => ∃ ds m1, Reps X.K H1 ds vs ∧ Ab X.K cl H1 m1 ∧ Ext H H1 ∧ callS T L i ds m1 (cE X.K cl H Q) (cX X.K cl W H σ)) :=
    ⟨s, m, hs, hm, ha.mono _ _ _ _ _ _ (fun ds m1 z vs H1 r1 hm1 e1 => ⟨ds, m1, r1, hm1, e1, z⟩) (fun _ _ z => z) h⟩
  refine PySem.W.callWith_K (h₀ := X.base) I.ok.mod.kin hf.kn.kp (thn (ha.run.run pos pins s0 σ H _ I hA) fun us s1 ⟨vs, H1, I1, r, ds, m1, r1, hm1, e1, S, t, al, h1, h2, h3, h4⟩ => ⟨I1.kIn, ?_⟩) he hpl
  obtain ⟨fd, ps, F, hb⟩ := hf.kn.fn S t
  exact run_fnS F hf.room hb (passAt tk σ) I1 r ⟨ds, m1, al, r1, hm1, h1, h2, fun d m' z => cE_ext e1 (h3 d m' z), fun x m' z c dd H' a b e => h4 x m' z c dd H' a b (e1.trans e)⟩
theorem q_call0 {T : Tb} {L i : Nat} {f : Str} {fa : Addr} (tk : Takes X W) (hf : Known X cl T L i f fa) (hg : Gl X f) (hdb : (f == ("__debug__" : Str)) = false) :
    QE X cl W (.Call (.Name f p) [] [] pos) (eCall T L i aNil) := by
  refine ⟨mono_call (qa_nil (X := X) (cl := cl) (W := W)).mono, ⟨fun pins s0 σ H Q I h => ?_⟩⟩
  obtain ⟨s, m, hs, hm, S, t, al, h1, h2, h3, h4⟩ := h
  refine wpAny_Call_Name_kw (ld_glob I hg hf.kn.at_ ?_ hdb)
  obtain ⟨fd, ps, F, hb⟩ := hf.kn.fn S t
  exact PySem.W.callWith_K0 I.kIn hf.kn.kp (run_fnS (us := []) F hf.room hb (passAt tk σ) I .nil ⟨[], m, al, rfl, hm, h1, h2, h3, h4⟩)
/-- a constant of the module -/
theorem q_con {x : Str} {d : D} {v : V} (hg : Gl X x) (hm : ∃ u, X.mg x = some u ∧ RelV v u) (q : ∀ H, Rep X.K H d v) (hd : (x == ("__debug__" : Str)) = false) : QE X cl W (.Name x p) (eLit d) := by
  obtain ⟨u, h1, h2⟩ := hm
  exact q_glob hg h1 h2 q hd
theorem room66 {A : Around} {k : Nat} (r : Room k A) : A.units + 64 + 2 < cLine := by have := r.un; omega
end
end PV

/-! Targets, what is walked, statements, comprehensions, a def's promise. -/
namespace PV
open PySem L2 PyProof.Rows
section
variable {X : Cx} {cl : Cl} {W : WX} {a b c tg : Expr} {A B C : TE3} {rest : List Expr} {R : TA3} {pos p : Pos}

/-! ### targets -/
abbrev TG3 := D → S3 → Mp → (S3 → Mp → Prop) → Prop
abbrev TGs3 := List D → S3 → Mp → (S3 → Mp → Prop) → Prop
def upG (K : PySem.W.Frag) (cl : Cl) (g : TG3) : TG := fun v σ H Q => ∃ d s m, Rep K H d v ∧ RepS K H s σ ∧ Ab K cl H m ∧ g d s m (cS K cl H Q)
def upGs (K : PySem.W.Frag) (cl : Cl) (g : TGs3) : TGs := fun vs σ H Q => ∃ ds s m, Reps K H ds vs ∧ RepS K H s σ ∧ Ab K cl H m ∧ g ds s m (cS K cl H Q)
def MonoG (g : TG3) : Prop := ∀ d s m k k', (∀ s m, k s m → k' s m) → g d s m k → g d s m k'
def MonoGs (g : TGs3) : Prop := ∀ d s m k k', (∀ s m, k s m → k' s m) → g d s m k → g d s m k'
structure QG (X : Cx) (cl : Cl) (tg : Expr) (g : TG3) : Prop where
  mono : MonoG g
  run : PG X tg (upG X.K cl g)
structure QGs (X : Cx) (cl : Cl) (tg : List Expr) (g : TGs3) : Prop where
  mono : MonoGs g
  run : PGs X tg (upGs X.K cl g)
theorem PG.imp {t t' : TG} (h : PG X tg t) (i : ∀ v σ H Q, t' v σ H Q → t v σ H Q) : PG X tg t' := ⟨fun pins s σ H v u Q I r q => h.run pins s σ H v u Q I r (i v σ H Q q)⟩
theorem PGs.imp {t t' : TGs} (h : PGs X rest t) (i : ∀ v σ H Q, t' v σ H Q → t v σ H Q) : PGs X rest t' := ⟨fun pins s σ H v u Q I r q => h.run pins s σ H v u Q I r (i v σ H Q q)⟩
def gNm (i : Nat) : TG3 := fun d s m k => k (s.set i (some d)) m
theorem qg_name {i : Nat} {x : Str} (hN : X.N.Nodup) (hi : X.N[i]? = some x) (hx : Loc X.env.scope x) (hf : X.fn x = true ∨ X.env.scope.names.lookup x = some .local) : QG X cl (.Name x pos) (gNm i) :=
  ⟨fun d s m k k' hk h => hk _ _ h, PG.imp (pg_name hN hi hx hf) fun v σ H Q ⟨d, s, m, r, hs, hm, h⟩ => h _ H (hs.set r i) hm (Ext.refl H)⟩
def gs0 : TGs3 := fun ds s m k => ds = [] ∧ k s m
def gs1 (g : TG3) (gs : TGs3) : TGs3 := fun ds s m k => ∃ d r, ds = d :: r ∧ g d s m (fun s' m' => gs r s' m' k)
theorem qgs_nil : QGs X cl [] gs0 := ⟨fun d s m k k' hk ⟨e, h⟩ => ⟨e, hk _ _ h⟩, PGs.imp pgs_nil fun vs σ H Q ⟨ds, s, m, r, hs, hm, e, h⟩ => by
  subst e
  cases r
  exact ⟨rfl, h σ H hs hm (Ext.refl H)⟩⟩
theorem qgs_cons {g : TG3} {gs : TGs3} (h1 : QG X cl a g) (h2 : QGs X cl rest gs) (hs : (assignEach (a :: rest) X.env).map (·.2) = assign a X.env :: (assignEach rest X.env).map (·.2)) : QGs X cl (a :: rest) (gs1 g gs) :=
  ⟨fun ds s m k k' hk ⟨d, r, e, h⟩ => ⟨d, r, e, h1.mono _ _ _ _ _ (fun s' m' z => h2.mono _ _ _ _ _ hk z) h⟩, PGs.imp (pgs_cons h1.run h2.run hs) fun vs σ H Q ⟨ds, s, m, r, hs, hm, d, dr, e, h⟩ => by
    subst e
    obtain ⟨v, vr, rfl, r1, r2⟩ := r
    exact ⟨v, vr, rfl, d, s, m, r1, hs, hm, h1.mono _ _ _ _ _ (fun s' m' z σ' H' hs' hm' e' => ⟨dr, s', m', r2.mono e', hs', hm', h2.mono _ _ _ _ _ (fun _ _ w => cS_ext e' w) z⟩) h⟩⟩
/-- a, b, .. = a tuple of that length; = a list -/
def gTp (n : Nat) (gs : TGs3) : TG3 := fun d s m k => ∃ l, d = .tup l ∧ l.length = n ∧ gs l s m k
def gLs (n : Nat) (gs : TGs3) : TG3 := fun d s m k => ∃ q l, d = .ref q ∧ RL m q l ∧ l.length = n ∧ gs l s m k
theorem qg_tup {gs : TGs3} {n k : Nat} (hc : X.calm = true) (h : QGs X cl rest gs) (hn : (assignEach rest X.env).length = n) (hst : (assignEach rest X.env).findIdx? (·.1) = none) : QG X cl (.Tuple rest k pos) (gTp n gs) :=
  ⟨fun d s m k k' hk ⟨l, e, z, h'⟩ => ⟨l, e, z, h.mono _ _ _ _ _ hk h'⟩, PG.imp (pg_tup hc h.run hn hst) fun v σ H Q ⟨d, s, m, r, hs, hm, l, e, z, h'⟩ => by
    subst e
    obtain ⟨q, vs, rfl, q1, q2⟩ := r
    exact ⟨q, vs, rfl, q1, by rw [← q2.length]; exact z, l, s, m, q2, hs, hm, h'⟩⟩
theorem qg_lst {gs : TGs3} {n k : Nat} (hc : X.calm = true) (h : QGs X cl rest gs) (hn : (assignEach rest X.env).length = n) (hst : (assignEach rest X.env).findIdx? (·.1) = none) : QG X cl (.Tuple rest k pos) (gLs n gs) :=
  ⟨fun d s m k k' hk ⟨q, l, e, z, y, h'⟩ => ⟨q, l, e, z, y, h.mono _ _ _ _ _ hk h'⟩, PG.imp (pg_unl hc h.run hn hst) fun v σ H Q ⟨d, s, m, r, hs, hm, q, l, e, z, y, h'⟩ => by
    subst e
    have r' : v = .ref q := r
    obtain ⟨vs, q1, q2⟩ := hm.rl z
    exact ⟨q, vs, r', q1, by rw [← q2.length]; exact y, l, s, m, q2, hs, hm, h'⟩⟩

/-! ### what is walked -/
/-- from H0 on J walks l, while R stands -/
def Walk3 (K : PySem.W.Frag) (cl : Cl) (H0 : Hp) (J : It) (l : List D) (R : Mp → Prop) : Prop := ∀ i H m, Ext H0 H → Ab K cl H m → R m → i ≤ l.length →
  (i = l.length → J.stop i H) ∧ ∀ d, l[i]? = some d → J.go i H ∧ ∀ x H', J.yld i H x H' → Rep K H' d x ∧ Ab K cl H' m ∧ Ext H H'
abbrev TI3 := S3 → Mp → (List D → (Mp → Prop) → Mp → Prop) → X3 → Prop
def MonoI (T : TI3) : Prop := ∀ s m k k' x x', (∀ l R m, k l R m → k' l R m) → (∀ e m, x e m → x' e m) → T s m k x → T s m k' x'
def upI (K : PySem.W.Frag) (cl : Cl) (W : WX) (T : TI3) : TI := fun σ H R' => ∃ s m, RepS K H s σ ∧ Ab K cl H m ∧ T s m (fun l R m1 => ∀ J H1, Walk3 K cl H1 J l R → Ab K cl H1 m1 → Ext H H1 → R' J H1) (cX K cl W H σ)
structure QI (X : Cx) (cl : Cl) (W : WX) (tg e : Expr) (T : TI3) : Prop where
  mono : MonoI T
  run : PI X tg e (upI X.K cl W T)
theorem PI.imp {e : Expr} {t t' : TI} (h : PI X tg e t) (i : ∀ σ H Q, t' σ H Q → t σ H Q) : PI X tg e t' := ⟨fun pins s σ H Q I q => h.run pins s σ H Q I (i σ H Q q)⟩
theorem walk_list {q : Addr} {l : List D} {H0 : Hp} : Walk3 X.K cl H0 (Itl X.K q) l fun m => RL m q l := fun i H m e0 hm h hi => by
  obtain ⟨vs, q1, q2⟩ := hm.rl h
  refine ⟨fun e => ⟨vs, q1, by rw [← q2.length]; omega⟩, fun d hd => ?_⟩
  obtain ⟨v, e1, r1⟩ := q2.get hd
  refine ⟨⟨vs, v, q1, e1⟩, fun x H' ⟨eH, hx⟩ => ?_⟩
  subst eH
  have e2 := hx vs q1
  rw [e1] at e2; cases e2
  exact ⟨r1, hm, Ext.refl _⟩
theorem walk_tup {q : Addr} {l : List D} {vs : List V} {H0 : Hp} (h1 : SqT X.K H0 q vs) (h2 : Reps X.K H0 l vs) : Walk3 X.K cl H0 (Itt X.K q) l fun _ => True := fun i H m e0 hm _ hi => by
  have q1 := e0.sqT h1
  have q2 := h2.mono e0
  refine ⟨fun e => ⟨vs, q1, by rw [← q2.length]; omega⟩, fun d hd => ?_⟩
  obtain ⟨v, e1, r1⟩ := q2.get hd
  refine ⟨⟨vs, v, q1, e1⟩, fun x H' ⟨eH, hx⟩ => ?_⟩
  subst eH
  have e2 := hx vs q1
  rw [e1] at e2; cases e2
  exact ⟨r1, hm, Ext.refl _⟩
def signs (z : Str) : List D := z.cps.toList.map fun c => .str ⟨#[c]⟩
theorem walk_str {z : Str} {H0 : Hp} : Walk3 X.K cl H0 (Its z) (signs z) fun _ => True := fun i H m e0 hm _ hi => by
  have hl : (signs z).length = z.cps.size := by unfold signs; simp
  refine ⟨fun e => by rw [hl] at e; exact Nat.le_of_eq e.symm, fun d hd => ?_⟩
  have hi' : i < z.cps.size := by rw [← hl]; exact (List.getElem?_eq_some_iff.mp hd).1
  refine ⟨hi', fun x H' ⟨eH, c, hc, hx⟩ => ?_⟩
  subst eH hx
  unfold signs at hd
  rw [List.getElem?_map, Array.getElem?_toList, hc] at hd
  cases hd
  exact ⟨rfl, hm, Ext.refl _⟩
theorem repk_at {K : PySem.W.Frag} {H : Hp} : ∀ {kvs : List (Key × D)} {kws : List (Key × V)}, RepK K H kvs kws → kws.map (·.1) = kvs.map (·.1)
  | [], _, h => by cases h; rfl
  | (k, d) :: r, _, h => by
    obtain ⟨v, r', rfl, _, h3⟩ := h
    rw [List.map_cons, List.map_cons, repk_at h3]
/-- the keys of a locked dict -/
theorem walk_keys {q : Addr} {o : Obj} {kvs : List (Key × D)} {kws : List (Key × V)} {H0 : Hp} (h1 : H0 q = some (.frz o (.dK kws))) (h2 : RepK X.K H0 kvs kws) : Walk3 X.K cl H0 (Itk q o kws) (kvs.map fun e => keyD e.1) fun m => m q = some (.rdK kvs) := fun i H m e0 hm _ hi => by
  have hk := repk_at h2
  have hl : kws.length = kvs.length := by simpa using congrArg List.length hk
  rw [List.length_map] at hi
  refine ⟨fun e => ⟨e0.2 _ _ _ h1, by rw [List.length_map] at e; omega⟩, fun d hd => ?_⟩
  rw [List.getElem?_map] at hd
  cases ek : kvs[i]? with
  | none => rw [ek] at hd; cases hd
  | some p =>
    rw [ek] at hd
    cases hd
    have hlt : i < kvs.length := (List.getElem?_eq_some_iff.mp ek).1
    refine ⟨⟨e0.2 _ _ _ h1, by omega⟩, fun x H' ⟨eH, k, v, hx, ex⟩ => ?_⟩
    subst eH ex
    have e2 : (kws.map (·.1))[i]? = some k := by rw [List.getElem?_map, hx]; rfl
    rw [hk, List.getElem?_map, ek] at e2
    cases e2
    exact ⟨key_rep _, hm, Ext.refl _⟩
def itD : D → Mp → (List D → (Mp → Prop) → Mp → Prop) → Prop
  | .ref p, m, k => (∃ l, RL m p l ∧ k l (fun m' => RL m' p l) m) ∨ ∃ kvs : List (Key × D), m p = some (.rdK kvs) ∧ k (kvs.map fun e => keyD e.1) (fun m' => m' p = some (.rdK kvs)) m
  | .tup l, m, k => k l (fun _ => True) m
  | .str z, m, k => k (signs z) (fun _ => True) m
  | _, _, _ => False
theorem mono_itD {d : D} {m : Mp} {k k' : List D → (Mp → Prop) → Mp → Prop} (hk : ∀ l R m, k l R m → k' l R m) (h : itD d m k) : itD d m k' := by
  unfold itD at h ⊢
  split at h
  · rcases h with ⟨l, h1, h2⟩ | ⟨l, h1, h2⟩
    · exact .inl ⟨l, h1, hk _ _ _ h2⟩
    · exact .inr ⟨l, h1, hk _ _ _ h2⟩
  · exact hk _ _ _ h
  · exact hk _ _ _ h
  · exact h.elim
/-- a list, a tuple, a text, walked -/
def iSq (A : TE3) : TI3 := fun s m k x => A s m (fun d m1 => itD d m1 k) x
theorem qi_seq (ha : QE X cl W a A) : QI X cl W tg a (iSq A) := by
  refine ⟨fun s m k k' x x' hk hx h => ha.mono _ _ _ _ _ _ (fun d m1 z => mono_itD hk z) hx h, ⟨fun pins s0 σ H R' I h => ?_⟩⟩
  obtain ⟨s, m, hs, hm, h⟩ := h
  have hA : upE X.K cl W A σ H (fun v H1 => ∃ d m1, Rep X.K H1 d v ∧ Ab X.K cl H1 m1 ∧ Ext H H1 ∧ itD d m1 (fun l R m1 => ∀ J H1, Walk3 X.K cl H1 J l R → Ab X.K cl H1 m1 → Ext H H1 → R' J H1)) :=
    ⟨s, m, hs, hm, ha.mono _ _ _ _ _ _ (fun d m1 z v H1 r hm1 e1 => ⟨d, m1, r, hm1, e1, z⟩) (fun _ _ z => z) h⟩
  refine thn (ha.run.run pins s0 σ H _ I hA) fun u s1 ⟨v, H1, I1, rv, d, m1, r, hm1, e1, z⟩ => ?_
  unfold itD at z
  split at z
  · rename_i q
    have r' : v = .ref q := r
    subst r'
    cases rv
    rcases z with ⟨l, h1, h2⟩ | ⟨kvs, h1, h2⟩
    case' inr =>
      obtain ⟨o, kws, h3, h4⟩ := hm1.1 q _ h1
      obtain ⟨y1, y2, y3, y4, y5, y6, y7, y8, y9, y10⟩ := I1.frzK h3
      refine L2.iter_keys y1 y2 y3 y7 (pi_one (tk := s1.toks) I1 _ (turn_keys _ y7) ⟨_, Heap.get?_push_size _ rfl, rfl, ?_⟩ (h2 _ H1 (walk_keys h3 h4) hm1 e1))
      rw [y8] <;> rfl
    obtain ⟨vs, q1, q2⟩ := hm1.rl h1
    obtain ⟨its, ri, pl, _⟩ := I1.list q1
    exact wpAny_pyIter_list pl.isList (pi_one (tk := s1.toks) I1 _ (turn_list q _) ⟨_, Heap.get?_push_size _ rfl, rfl, rfl⟩ (h2 _ H1 walk_list hm1 e1))
  · rename_i l
    obtain ⟨q, vs, rfl, q1, q2⟩ := r
    cases rv
    obtain ⟨its, ri, pl, _⟩ := I1.tuple q1
    exact wpAny_pyIter_tuple (show s1.heap.IsTuple q its.toArray from pl) (pi_one (tk := s1.toks) I1 _ (turn_tuple q _) ⟨_, Heap.get?_push_size _ rfl, rfl, rfl⟩ (z _ H1 (walk_tup q1 q2) hm1 e1))
  · rename_i y
    have r' : v = .str y := r
    subst r'
    obtain ⟨t, rfl⟩ := rv
    have q := z _ H1 walk_str hm1 e1
    cases hy : y.cps.all (· < 128)
    · exact wpAny_pyIter_wide hy (pi_one (tk := s1.toks) I1 _ (turn_str _ y t "str_iterator" (.inr rfl)) ⟨_, Heap.get?_push_size _ rfl, rfl, rfl⟩ q)
    · exact wpAny_pyIter_ascii hy (pi_one (tk := s1.toks) I1 _ (turn_str _ y t "str_ascii_iterator" (.inl rfl)) ⟨_, Heap.get?_push_size _ rfl, rfl, rfl⟩ q)
  · exact z.elim
/-- range -/
def rngD (lo c : Int) (n : Nat) : List D := (List.range n).map fun i => .int (lo + (i : Nat) * c)
theorem rngD_get {lo c : Int} {n i : Nat} {d : D} (h : (rngD lo c n)[i]? = some d) : i < n ∧ d = .int (lo + (i : Nat) * c) := by
  unfold rngD at h
  rw [List.getElem?_map] at h
  cases e : (List.range n)[i]? with
  | none => rw [e] at h; cases h
  | some j =>
    rw [e] at h
    obtain ⟨h1, h2⟩ := List.getElem?_eq_some_iff.mp e
    rw [List.length_range] at h1
    rw [List.getElem_range] at h2
    subst h2
    exact ⟨h1, (Option.some.inj h).symm⟩
theorem rngD_length {lo c : Int} {n : Nat} : (rngD lo c n).length = n := by unfold rngD; simp
theorem walk_rng {lo : Int} {n : Nat} {H0 : Hp} : Walk3 X.K cl H0 (Itr lo n) (rngD lo 1 n) fun _ => True := fun i H m e0 hm _ hi => by
  refine ⟨fun e => by rw [rngD_length] at e; exact Nat.le_of_eq e.symm, fun d hd => ?_⟩
  obtain ⟨h1, h2⟩ := rngD_get hd
  refine ⟨h1, fun x H' ⟨eH, hx⟩ => ?_⟩
  subst eH hx h2
  rw [Int.mul_one]
  exact ⟨rfl, hm, Ext.refl _⟩
theorem walk_rngC {lo c : Int} {n : Nat} {H0 : Hp} : Walk3 X.K cl H0 (Itc lo c n) (rngD lo c n) fun _ => True := fun i H m e0 hm _ hi => by
  refine ⟨fun e => by rw [rngD_length] at e; exact Nat.le_of_eq e.symm, fun d hd => ?_⟩
  obtain ⟨h1, h2⟩ := rngD_get hd
  refine ⟨h1, fun x H' ⟨eH, hx⟩ => ?_⟩
  subst eH hx h2
  exact ⟨rfl, hm, Ext.refl _⟩
def B62 (i : Int) : Prop := -(2 ^ 62) ≤ i ∧ i < 2 ^ 62
def iR1 (R : TA3) : TI3 := fun s m k x => R s m (fun ds m1 => ∃ j : Int, ds = [.int j] ∧ B62 j ∧ k (rngD 0 1 j.toNat) (fun _ => True) m1) x
def iR2 (R : TA3) : TI3 := fun s m k x => R s m (fun ds m1 => ∃ i j : Int, ds = [.int i, .int j] ∧ B62 i ∧ B62 j ∧ k (rngD i 1 (j - i).toNat) (fun _ => True) m1) x
def iR3 (R : TA3) : TI3 := fun s m k x => R s m (fun ds m1 => ∃ (i j c : Int) (n : Nat), ds = [.int i, .int j, .int c] ∧ RgC i j c n ∧ k (rngD i c n) (fun _ => True) m1) x
theorem qi_rng1 (hg : Gl X "range") (hm : X.mg "range" = none) (ha : QA X cl W [a] R) (hs : starEach [a] X.env = [(false, eval a X.env)]) : QI X cl W tg (.Call (.Name "range" p) [a] [] pos) (iR1 R) :=
  ⟨fun s m k k' x x' hk hx h => ha.mono _ _ _ _ _ _ (fun ds m1 ⟨j, e, z, w⟩ => ⟨j, e, z, hk _ _ _ w⟩) hx h,
   PI.imp (pi_range1 hg hm ha.run hs) fun σ H Q ⟨s, m, h1, h2, h⟩ => ⟨s, m, h1, h2, ha.mono _ _ _ _ _ _ (fun ds m1 ⟨j, e, z, w⟩ vs H1 r hm1 e1 => by
    subst e
    obtain ⟨v, rfl, q⟩ := reps1 r
    cases q
    exact ⟨j, rfl, z.1, z.2, w _ H1 walk_rng hm1 e1⟩) (fun _ _ z => z) h⟩⟩
theorem qi_rng2 (hg : Gl X "range") (hm : X.mg "range" = none) (ha : QA X cl W [a, b] R) (hs : starEach [a, b] X.env = [(false, eval a X.env), (false, eval b X.env)]) (hs2 : starEach [b] X.env = [(false, eval b X.env)]) : QI X cl W tg (.Call (.Name "range" p) [a, b] [] pos) (iR2 R) :=
  ⟨fun s m k k' x x' hk hx h => ha.mono _ _ _ _ _ _ (fun ds m1 ⟨i, j, e, z, y, w⟩ => ⟨i, j, e, z, y, hk _ _ _ w⟩) hx h,
   PI.imp (pi_range2 hg hm ha.run hs hs2) fun σ H Q ⟨s, m, h1, h2, h⟩ => ⟨s, m, h1, h2, ha.mono _ _ _ _ _ _ (fun ds m1 ⟨i, j, e, z, y, w⟩ vs H1 r hm1 e1 => by
    subst e
    obtain ⟨v, v', rfl, q, q'⟩ := reps2 r
    cases q
    cases q'
    exact ⟨i, j, rfl, ⟨z.1, z.2, y.1, y.2⟩, w _ H1 walk_rng hm1 e1⟩) (fun _ _ z => z) h⟩⟩
theorem reps3 {K : PySem.W.Frag} {H : Hp} {d e f : D} {vs : List V} (h : Reps K H [d, e, f] vs) : ∃ v w u, vs = [v, w, u] ∧ Rep K H d v ∧ Rep K H e w ∧ Rep K H f u := by
  obtain ⟨v, r, rfl, h1, h2⟩ := h
  obtain ⟨w, u, rfl, h3, h4⟩ := reps2 h2
  exact ⟨v, w, u, rfl, h1, h3, h4⟩
theorem qi_rng3 (hg : Gl X "range") (hm : X.mg "range" = none) (ha : QA X cl W [a, b, c] R) (hs : starEach [a, b, c] X.env = (false, eval a X.env) :: starEach [b, c] X.env) (hpl : (backTo pos (starEach [b, c] X.env)).any (·.1) = false) : QI X cl W tg (.Call (.Name "range" p) [a, b, c] [] pos) (iR3 R) :=
  ⟨fun s m k k' x x' hk hx h => ha.mono _ _ _ _ _ _ (fun ds m1 ⟨i, j, c, n, e, z, w⟩ => ⟨i, j, c, n, e, z, hk _ _ _ w⟩) hx h,
   PI.imp (pi_range3 hg hm ha.run hs hpl) fun σ H Q ⟨s, m, h1, h2, h⟩ => ⟨s, m, h1, h2, ha.mono _ _ _ _ _ _ (fun ds m1 ⟨i, j, c, n, e, z, w⟩ vs H1 r hm1 e1 => by
    subst e
    obtain ⟨v, v', v2, rfl, q, q', q2⟩ := reps3 r
    cases q
    cases q'
    cases q2
    exact ⟨i, j, c, n, rfl, z, w _ H1 walk_rngC hm1 e1⟩) (fun _ _ z => z) h⟩⟩
/-- zip of two lists, of two tuples -/
def zipD (l r : List D) : List D := (l.zip r).map fun p => .tup [p.1, p.2]
theorem zipD_get {l r : List D} {i : Nat} {d : D} (h : (zipD l r)[i]? = some d) : ∃ x y, l[i]? = some x ∧ r[i]? = some y ∧ d = .tup [x, y] := by
  unfold zipD at h
  rw [List.getElem?_map] at h
  cases e : (l.zip r)[i]? with
  | none => rw [e] at h; cases h
  | some p =>
    rw [e] at h
    obtain ⟨h1, h2⟩ := List.getElem?_zip_eq_some.mp e
    exact ⟨p.1, p.2, h1, h2, (Option.some.inj h).symm⟩
theorem zipD_length {l r : List D} : (zipD l r).length = min l.length r.length := by unfold zipD; simp
theorem walk_zip {q q' : Addr} {l r : List D} {H0 : Hp} : Walk3 X.K cl H0 (Itz X.K q q') (zipD l r) fun m => RL m q l ∧ RL m q' r := fun i H m e0 hm ⟨h, h'⟩ hi => by
  obtain ⟨vs, q1, q2⟩ := hm.rl h
  obtain ⟨ws, q3, q4⟩ := hm.rl h'
  refine ⟨fun e => ⟨vs, ws, q1, q3, by rw [zipD_length] at e; rw [← q2.length, ← q4.length]; omega⟩, fun d hd => ?_⟩
  obtain ⟨x, y, h1, h2, rfl⟩ := zipD_get hd
  obtain ⟨v, e1, r1⟩ := q2.get h1
  obtain ⟨w, e2, r2⟩ := q4.get h2
  refine ⟨⟨vs, ws, v, w, q1, q3, e1, e2⟩, fun z H' ⟨T, a, b, ez, hT, eH, ha, hb⟩ => ?_⟩
  subst ez eH
  have f1 := ha vs q1
  have f2 := hb ws q3
  rw [e1] at f1; cases f1
  rw [e2] at f2; cases f2
  exact ⟨rep_tup hT ⟨_, _, rfl, r1, _, _, rfl, r2, rfl⟩, hm.hid hT, Ext.new hT⟩
theorem walk_zipT {q q' : Addr} {l r : List D} {vs ws : List V} {H0 : Hp} (h1 : SqT X.K H0 q vs) (h2 : Reps X.K H0 l vs) (h3 : SqT X.K H0 q' ws) (h4 : Reps X.K H0 r ws) : Walk3 X.K cl H0 (RZ.ItzT X.K q q') (zipD l r) fun _ => True := fun i H m e0 hm _ hi => by
  have q1 := e0.sqT h1
  have q2 := h2.mono e0
  have q3 := e0.sqT h3
  have q4 := h4.mono e0
  refine ⟨fun e => ⟨vs, ws, q1, q3, by rw [zipD_length] at e; rw [← q2.length, ← q4.length]; omega⟩, fun d hd => ?_⟩
  obtain ⟨x, y, h1, h2, rfl⟩ := zipD_get hd
  obtain ⟨v, e1, r1⟩ := q2.get h1
  obtain ⟨w, e2, r2⟩ := q4.get h2
  refine ⟨⟨vs, ws, v, w, q1, q3, e1, e2⟩, fun z H' ⟨T, a, b, ez, hT, eH, ha, hb⟩ => ?_⟩
  subst ez eH
  have f1 := ha vs q1
  have f2 := hb ws q3
  rw [e1] at f1; cases f1
  rw [e2] at f2; cases f2
  exact ⟨rep_tup hT ⟨_, _, rfl, r1, _, _, rfl, r2, rfl⟩, hm.hid hT, Ext.new hT⟩
def iZp (R : TA3) : TI3 := fun s m k x => R s m (fun ds m1 => (∃ q q' l r, ds = [.ref q, .ref q'] ∧ RL m1 q l ∧ RL m1 q' r ∧ k (zipD l r) (fun m => RL m q l ∧ RL m q' r) m1) ∨ ∃ l r, ds = [.tup l, .tup r] ∧ k (zipD l r) (fun _ => True) m1) x
theorem qi_zip {elts : List Expr} {kk : Nat} {tpos : Pos} (hg : Gl X "zip") (hm : X.mg "zip" = none) (ha : QA X cl W [a, b] R) (hs : starEach [a, b] X.env = (false, eval a X.env) :: starEach [b] X.env) (hpl : (backTo pos (starEach [b] X.env)).any (·.1) = false) :
    QI X cl W (.Tuple elts kk tpos) (.Call (.Name "zip" p) [a, b] [] pos) (iZp R) :=
  ⟨fun s m k k' x x' hk hx h => ha.mono _ _ _ _ _ _ (fun ds m1 z => by
      rcases z with ⟨q, q', l, r, e, z1, z2, w⟩ | ⟨l, r, e, w⟩
      · exact .inl ⟨q, q', l, r, e, z1, z2, hk _ _ _ w⟩
      · exact .inr ⟨l, r, e, hk _ _ _ w⟩) hx h,
   PI.imp (RZ.pi_zipA hg hm ha.run hs hpl) fun σ H Q ⟨s, m, h1, h2, h⟩ => ⟨s, m, h1, h2, ha.mono _ _ _ _ _ _ (fun ds m1 z vs H1 r hm1 e1 => by
    rcases z with ⟨q, q', l, r', e, z1, z2, w⟩ | ⟨l, r', e, w⟩
    · subst e
      obtain ⟨v, v', rfl, y, y'⟩ := reps2 r
      cases y
      cases y'
      obtain ⟨us, q1, _⟩ := hm1.rl z1
      obtain ⟨ws, q2, _⟩ := hm1.rl z2
      exact ⟨q, q', us, ws, rfl, .inl ⟨q1, q2, w _ H1 walk_zip hm1 e1⟩⟩
    · subst e
      obtain ⟨v, v', rfl, ⟨q, us, rfl, q1, q2⟩, ⟨q', ws, rfl, q3, q4⟩⟩ := reps2 r
      exact ⟨q, q', us, ws, rfl, .inr ⟨q1, q3, w _ H1 (walk_zipT q1 q2 q3 q4) hm1 e1⟩⟩) (fun _ _ z => z) h⟩⟩
end
end PV

/-! Statements, comprehensions, a def's promise. -/
namespace PV
open PySem L2 PyProof.Rows
section
variable {X : Cx} {cl : Cl} {W : WX} {a b c tg : Expr} {A B C : TE3} {rest : List Expr} {R : TA3} {pos p : Pos} {st : Stmt} {sts sts' : List Stmt} {S S' : TS3}

theorem ex_cX {K : PySem.W.Frag} {H : Hp} {s : S3} {σ : L2.St} {D : Ends} (hs : RepS K H s σ) {x : Xc} {m : Mp} (h : (cN K cl W H D).ex s x m) : cX K cl W H σ x m := fun c dd H' r a e => h σ c dd H' (hs.mono e) r a e

theorem MonoS.to {S : TS3} (h : MonoS S) {s : S3} {m : Mp} {D D' : N3} (q : S D s m) (l : N3.Le D D') : S D' s m := h _ _ _ _ l q
theorem MonoG.to {g : TG3} (h : MonoG g) {d : D} {s : S3} {m : Mp} {k k' : S3 → Mp → Prop} (q : g d s m k) (l : ∀ s m, k s m → k' s m) : g d s m k' := h _ _ _ _ _ l q
/-! ### blocks, small statements -/
def sNil : TS3 := fun D s m => D.nx s m
def sSeq (t u : TS3) : TS3 := fun D s m => t { D with nx := fun s' m' => u D s' m' } s m
/-- .. where ways meet -/
def sSeqJ (t u : TS3) : TS3 := sSeq t u
theorem N3.Le.nx_of {D D' : N3} (h : N3.Le D D') {n n' : S3 → Mp → Prop} (q : ∀ s m, n s m → n' s m) : N3.Le { D with nx := n } { D' with nx := n' } := ⟨q, h.rt, h.bk, h.ct, h.ex⟩
theorem N3.Le.refl (D : N3) : N3.Le D D := ⟨fun _ _ h => h, fun _ _ h => h, fun _ _ h => h, fun _ _ h => h, fun _ _ _ h => h⟩
theorem mono_seq (h : MonoS S) (h' : MonoS S') : MonoS (sSeq S S') := fun s m D D' l q => h _ _ _ _ (l.nx_of fun s' m' z => h' _ _ _ _ l z) q
theorem qb_nil : QB X cl W [] sNil := ⟨fun s m D D' l q => l.nx _ _ q, PSs.imp pss_nil fun D σ H ⟨s, m, hs, hm, q⟩ => q σ H hs hm (Ext.refl H)⟩
theorem qb_one (h : QS X cl W st S) : QB X cl W [st] S := ⟨h.mono, pss_one h.run⟩
theorem qb_cons (h : QS X cl W st S) (h' : QB X cl W sts S') : QB X cl W (st :: sts) (sSeq S S') :=
  ⟨mono_seq h.mono h'.mono, PSs.imp (pss_cons h.run h'.run) fun D σ H ⟨s, m, hs, hm, q⟩ => ⟨s, m, hs, hm, h.mono.to q
    ⟨fun s' m' z σ' H' hs' hm' e => ⟨s', m', hs', hm', h'.mono.to z (cN_ext e)⟩, fun _ _ z => z, fun _ _ z => z, fun _ _ z => z, fun _ _ _ z => z⟩⟩⟩
theorem qb_consJ (h : QS X cl W st S) (h' : QB X cl W sts S') : QB X cl W (st :: sts) (sSeqJ S S') := qb_cons h h'
/-- a way that is not gone -/
def sNo : TS3 := fun _ _ _ => False
theorem qs_no : QS X cl W st sNo := ⟨fun _ _ _ _ _ h => h, PS.imp ps_never fun D σ H ⟨s, m, hs, hm, q⟩ => q⟩
theorem qb_no : QB X cl W sts sNo := ⟨fun _ _ _ _ _ h => h, PSs.imp pss_never fun D σ H ⟨s, m, hs, hm, q⟩ => q⟩
def sBrk : TS3 := fun D s m => D.bk s m
def sCnt : TS3 := fun D s m => D.ct s m
theorem qs_pass : QS X cl W (.Pass pos) sNil := ⟨fun s m D D' l q => l.nx _ _ q, PS.imp ps_pass fun D σ H ⟨s, m, hs, hm, q⟩ => q σ H hs hm (Ext.refl H)⟩
theorem qs_brk : QS X cl W (.Break pos) sBrk := ⟨fun s m D D' l q => l.bk _ _ q, PS.imp ps_break fun D σ H ⟨s, m, hs, hm, q⟩ => q σ H hs hm (Ext.refl H)⟩
theorem qs_cnt : QS X cl W (.Continue pos) sCnt := ⟨fun s m D D' l q => l.ct _ _ q, PS.imp ps_continue fun D σ H ⟨s, m, hs, hm, q⟩ => q σ H hs hm (Ext.refl H)⟩
def sExp (A : TE3) : TS3 := fun D s m => A s m (fun _ m1 => D.nx s m1) (D.ex s)
theorem qs_exp (h : QE X cl W a A) (hs : swapsWith a none pos.line X.env = pure false) : QS X cl W (.Expr a pos) (sExp A) :=
  ⟨fun s m D D' l q => h.mono _ _ _ _ _ _ (fun _ _ z => l.nx _ _ z) (fun _ _ z => l.ex _ _ _ z) q,
   PS.imp (ps_expr h.run hs) fun D σ H ⟨s, m, hs, hm, q⟩ => ⟨s, m, hs, hm, h.mono _ _ _ _ _ _ (fun d m1 z v H1 r hm1 e1 => z σ H1 (hs.mono e1) hm1 e1) (fun _ _ z => ex_cX hs z) q⟩⟩
theorem qs_doc {x j} {pos' : Pos} : QS X cl W (.Expr (.Constant (.str x) j pos) pos') sNil := ⟨fun s m D D' l q => l.nx _ _ q, PS.imp ps_doc fun D σ H ⟨s, m, hs, hm, q⟩ => q σ H hs hm (Ext.refl H)⟩
def sRet (A : TE3) : TS3 := fun D s m => A s m D.rt (D.ex s)
theorem qs_ret (h : QE X cl W a A) : QS X cl W (.Return (some a) pos) (sRet A) :=
  ⟨fun s m D D' l q => h.mono _ _ _ _ _ _ (fun _ _ z => l.rt _ _ z) (fun _ _ z => l.ex _ _ _ z) q,
   PS.imp (ps_ret h.run) fun D σ H ⟨s, m, hs, hm, q⟩ => ⟨s, m, hs, hm, h.mono _ _ _ _ _ _ (fun d m1 z => z) (fun _ _ z => ex_cX hs z) q⟩⟩
def sRetN : TS3 := fun D _ m => D.rt .non m
theorem qs_retN : QS X cl W (.Return none pos) sRetN := ⟨fun s m D D' l q => l.rt _ _ q, PS.imp ps_retN fun D σ H ⟨s, m, hs, hm, q⟩ => q _ H rfl hm (Ext.refl H)⟩
def sAsg (A : TE3) (g : TG3) : TS3 := fun D s m => A s m (fun d m1 => g d s m1 D.nx) (D.ex s)
theorem qs_asg {g : TG3} (h : QE X cl W a A) (hg : QG X cl tg g) (hs : swapsWithSole [tg] a pos.line X.env = pure false) (hw : swappedStores [tg] a X.env = pure none) (h1 : (assignEach [tg] X.env).map (·.2) = [assign tg X.env]) :
    QS X cl W (.Assign [tg] a pos) (sAsg A g) :=
  ⟨fun s m D D' l q => h.mono _ _ _ _ _ _ (fun _ _ z => hg.mono _ _ _ _ _ l.nx z) (fun _ _ z => l.ex _ _ _ z) q,
   PS.imp (ps_asg h.run hg.run hs hw h1) fun D σ H ⟨s, m, hs, hm, q⟩ => ⟨s, m, hs, hm, h.mono _ _ _ _ _ _ (fun d m1 z v H1 r hm1 e1 =>
    ⟨d, s, m1, r, hs.mono e1, hm1, hg.mono _ _ _ _ _ (fun _ _ w => cS_ext e1 w) z⟩) (fun _ _ z => ex_cX hs z) q⟩⟩
/-- a, b = x, y: two names -/
def sPar (i j : Nat) (R : TA3) : TS3 := fun D s m => R s m (fun ds m1 => ∃ u v, ds = [u, v] ∧ D.nx ((s.set i (some u)).set j (some v)) m1) (D.ex s)
theorem qs_par {i j : Nat} {x y : Str} {a b : Expr} {R : TA3} {px py pt : Pos} {kt k2 pt2} (hc : X.calm = true) (hN : X.N.Nodup) (hi : X.N[i]? = some x) (hj : X.N[j]? = some y) (hij : i ≠ j)
    (hx : X.env.scope.names.lookup x = some .local) (hy : X.env.scope.names.lookup y = some .local) (h : QA X cl W [a, b] R)
    (hw : swappedStores [.Tuple [.Name x px, .Name y py] kt pt] (.Tuple [a, b] k2 pt2) X.env = pure (some [x, y]))
    (hs : swapsWithSole [.Tuple [.Name x px, .Name y py] kt pt] (.Tuple [a, b] k2 pt2) pos.line X.env = pure false) :
    QS X cl W (.Assign [.Tuple [.Name x px, .Name y py] kt pt] (.Tuple [a, b] k2 pt2) pos) (sPar i j R) :=
  ⟨fun s m D D' l q => h.mono _ _ _ _ _ _ (fun _ _ ⟨u, v, e, z⟩ => ⟨u, v, e, l.nx _ _ z⟩) (fun _ _ z => l.ex _ _ _ z) q,
   PS.imp (ps_par hc hN hi hj hij hx hy h.run hw hs) fun D σ H ⟨s, m, hs, hm, q⟩ => ⟨s, m, hs, hm, h.mono _ _ _ _ _ _ (fun ds m1 ⟨u, v, e, z⟩ vs H1 r hm1 e1 => by
    subst e
    obtain ⟨v1, v2, rfl, q1, q2⟩ := reps2 r
    exact ⟨v1, v2, rfl, z _ H1 (((hs.mono e1).set q1 i).set q2 j) hm1 e1⟩) (fun _ _ z => ex_cX hs z) q⟩⟩
def sIf (t : TT3) (u v : TS3) : TS3 := fun D s m => t s m (fun b m1 => if b = true then u D s m1 else v D s m1) (D.ex s)
theorem qs_if {t : TT3} (ht : QT X cl W c t) (h : QB X cl W sts S) (h' : QB X cl W sts' S') : QS X cl W (.If c sts sts' pos) (sIf t S S') :=
  ⟨fun s m D D' l q => ht.mono _ _ _ _ _ _ (fun b m1 z => by
      cases b with
      | true => exact h.mono _ _ _ _ l z
      | false => exact h'.mono _ _ _ _ l z) (fun _ _ z => l.ex _ _ _ z) q,
   PS.imp (ps_if ht.run h.run h'.run) fun D σ H ⟨s, m, hs, hm, q⟩ => ⟨s, m, hs, hm, ht.mono _ _ _ _ _ _ (fun b m1 z H1 hm1 e1 => by
    cases b with
    | true => exact ⟨s, m1, hs.mono e1, hm1, h.mono _ _ _ _ (cN_ext e1) z⟩
    | false => exact ⟨s, m1, hs.mono e1, hm1, h'.mono _ _ _ _ (cN_ext e1) z⟩) (fun _ _ z => ex_cX hs z) q⟩⟩
/-- x op= e -/
def sAug (i : Nat) (A : TE3) (f : D → D → Mp → K3 → Prop) : TS3 := fun D s m => ∃ u, s[i]? = some (some u) ∧ A s m (fun v m1 => f u v m1 (fun d m2 => D.nx (s.set i (some d)) m2)) (D.ex s)
theorem qs_aug {i : Nat} {x : Str} {op : Operator} {f : D → D → Mp → K3 → Prop} {r : R2} {pos' : Pos} (hN : X.N.Nodup) (hi : X.N[i]? = some x) (hx : Loc X.env.scope x) (hfn : X.fn x = true ∨ X.env.scope.names.lookup x = some .local)
    (ho : PIp X op r) (hf : ∀ (H : Hp) (m : Mp) (u v : D) (x y : V) (Q : VK), Rep X.K H u x → Rep X.K H v y → Ab X.K cl H m → f u v m (cE X.K cl H Q) → r x y H Q) (mf : MonoF f) (h : QE X cl W a A) :
    QS X cl W (.AugAssign (.Name x pos') op a pos) (sAug i A f) :=
  ⟨fun s m D D' l ⟨u, e, q⟩ => ⟨u, e, h.mono _ _ _ _ _ _ (fun v m1 z => mf _ _ _ _ _ (fun d m2 w => l.nx _ _ w) z) (fun _ _ z => l.ex _ _ _ z) q⟩,
   PS.imp (ps_aug hN hi hx h.run ho hfn) fun D σ H ⟨s, m, hs, hm, u, e, q⟩ => by
    obtain ⟨x, e1, r1⟩ := hs.2 _ _ e
    refine ⟨x, e1, s, m, hs, hm, h.mono _ _ _ _ _ _ (fun v m1 z y H1 ry hm1 ee => ?_) (fun _ _ z => ex_cX hs z) q⟩
    exact hf H1 m1 u v x y _ (r1.mono ee) ry hm1 (mf _ _ _ _ _ (fun d m2 w w' H2 r2 hm2 e2 => w _ H2 ((hs.mono (ee.trans e2)).set r2 i) hm2 (ee.trans e2)) z)⟩
theorem aug_add {i : Nat} {x : Str} {pos' : Pos} (hN : X.N.Nodup) (hi : X.N[i]? = some x) (hx : Loc X.env.scope x) (hfn : X.fn x = true ∨ X.env.scope.names.lookup x = some .local) (h : QE X cl W a A) :
    QS X cl W (.AugAssign (.Name x pos') .Add a pos) (sAug i A (fI CT fun i j => .int (i + j))) := qs_aug hN hi hx hfn iop_add (up_I0 fun _ _ _ => rfl) mono_fI h
theorem aug_sub {i : Nat} {x : Str} {pos' : Pos} (hN : X.N.Nodup) (hi : X.N[i]? = some x) (hx : Loc X.env.scope x) (hfn : X.fn x = true ∨ X.env.scope.names.lookup x = some .local) (h : QE X cl W a A) :
    QS X cl W (.AugAssign (.Name x pos') .Sub a pos) (sAug i A (fI CT fun i j => .int (i - j))) := qs_aug hN hi hx hfn iop_sub (up_I0 fun _ _ _ => rfl) mono_fI h
/-- o[i] = e of a list -/
def fSet (o i v : D) (m : Mp) (k : Mp → Prop) : Prop := (∃ q l n j, o = .ref q ∧ i = .int n ∧ m q = some (.lst l) ∧ ixN l.length n = some j ∧ k (mset m q (.lst (l.set j v)))) ∨
  ∃ q kvs y, o = .ref q ∧ i = keyD y ∧ m q = some (.dK kvs) ∧ kvs.length < sizeLine ∧ k (mset m q (.dK (putD kvs y v)))
theorem pset_or {t t' : TSet} (h : PSet X t) (h' : PSet X t') : PSet X (fun o i v H Q => t o i v H Q ∨ t' o i v H Q) := by
  intro pins s σ H o i v ov iv u Q I ro ri rv q
  rcases q with q | q
  · exact h pins s σ H o i v ov iv u Q I ro ri rv q
  · exact h' pins s σ H o i v ov iv u Q I ro ri rv q
def sSub (O I V : TE3) : TS3 := fun D s m => V s m (fun v m1 => O s m1 (fun o m2 => I s m2 (fun i m3 => fSet o i v m3 (D.nx s)) (D.ex s)) (D.ex s)) (D.ex s)
theorem ix_lt {n : Nat} {i : Int} {j : Nat} (h : ixN n i = some j) : j < n := (ixN_seq h).2.1
theorem qs_sub {O I : TE3} {tpos : Pos} (hu : X.A.units + 64 < cLine) (hv : QE X cl W a A) (ho : QE X cl W b O) (hi : QE X cl W c I)
    (ha : ∀ v, assign (.Subscript b c tpos) X.env v = (do
      let ov ← holding [v] (eval b X.env)
      let iv ← holding [v, ov] (eval c X.env)
      standAt tpos
      holding [v, ov, iv] (setItem ov iv v)
      release [v, ov, iv] []))
    (hs : swapsWithSole [.Subscript b c tpos] a pos.line X.env = pure false) (hw : swappedStores [.Subscript b c tpos] a X.env = pure none) (h1 : (assignEach [.Subscript b c tpos] X.env).map (·.2) = [assign (.Subscript b c tpos) X.env]) :
    QS X cl W (.Assign [.Subscript b c tpos] a pos) (sSub O I A) := by
  refine ⟨fun s m D D' l q => hv.mono _ _ _ _ _ _ (fun v m1 z => ho.mono _ _ _ _ _ _ (fun o m2 y => hi.mono _ _ _ _ _ _ (fun i m3 z => by
      rcases z with ⟨p, ls, n, j, e1, e2, e3, e4, w⟩ | ⟨p, ls, n, e1, e2, e3, e4, w⟩
      · exact .inl ⟨p, ls, n, j, e1, e2, e3, e4, l.nx _ _ w⟩
      · exact .inr ⟨p, ls, n, e1, e2, e3, e4, l.nx _ _ w⟩) (fun _ _ z => l.ex _ _ _ z) y) (fun _ _ z => l.ex _ _ _ z) z) (fun _ _ z => l.ex _ _ _ z) q, ?_⟩
  refine PS.imp (ps_asg hv.run (pg_sub ho.run hi.run (pset_or set_list (set_dict (by omega))) ha) hs hw h1) fun D σ H ⟨s, m, hs, hm, q⟩ => ?_
  refine ⟨s, m, hs, hm, hv.mono _ _ _ _ _ _ (fun v m1 z x H1 rx hm1 e1 => ?_) (fun _ _ z => ex_cX hs z) q⟩
  refine ⟨s, m1, hs.mono e1, hm1, ho.mono _ _ _ _ _ _ (fun o m2 y xo H2 ro hm2 e2 => ?_) (fun _ _ z => cX_ext e1 (ex_cX hs z)) z⟩
  refine ⟨s, m2, hs.mono (e1.trans e2), hm2, hi.mono _ _ _ _ _ _ (fun i m3 w xi H3 ri hm3 e3 => ?_) (fun _ _ z => cX_ext (e1.trans e2) (ex_cX hs z)) y⟩
  rcases w with ⟨q, ls, n, j, rfl, rfl, e4, e5, w⟩ | ⟨q, kvs, n, rfl, rfl, e4, e5, w⟩
  · have ro' : xo = .ref q := ro
    have ri' : xi = .int n := ri
    obtain ⟨vs, q1, q2⟩ := hm3.1 q _ e4
    refine .inl ⟨q, vs, n, j, ro', ri', q1, by rw [← q2.length]; exact e5, ?_⟩
    have ex := ext_lst (u := .lst (vs.set j x)) q1
    exact w σ _ (hs.mono (((e1.trans e2).trans e3).trans ex)) (put_lst hm3 q1 (q2.set (rx.mono (e2.trans e3)) j)) (((e1.trans e2).trans e3).trans ex)
  · have ro' : xo = .ref q := ro
    have ri' := rep_key ri
    subst ri'
    obtain ⟨vs, q1, q2⟩ := hm3.1 q _ e4
    have ex := ext_dK (u := .dK (putK vs n x)) q1
    refine .inr ⟨q, _, ro', DPut.k q1 (by rw [← q2.length]; exact e5), ?_⟩
    exact w σ _ (hs.mono (((e1.trans e2).trans e3).trans ex)) (hm3.put ex ⟨_, upd_same, (q2.put (rx.mono (e2.trans e3))).mono ex⟩) (((e1.trans e2).trans e3).trans ex)

/-! ### loops -/
def sWhl (t : TT3) (u : TS3) : TS3 := fun D s m => ∃ P : Nat → S3 → Mp → Prop, (∃ n, P n s m) ∧ ∀ n s m, P n s m → t s m (fun b m1 => if b = true then u { D with nx := fun s' m' => ∃ n', n' < n ∧ P n' s' m', ct := fun s' m' => ∃ n', n' < n ∧ P n' s' m', bk := D.nx } s m1 else D.nx s m1) (D.ex s)
theorem qs_whl {t : TT3} (hp : PassesOwn (model X.prog X.w) X.A X.env X.xe) (ht : QT X cl W c t) (h : QB X cl W sts S) : QS X cl W (.While c sts [] pos) (sWhl t S) := by
  refine ⟨fun s m D D' l ⟨P, h0, hs⟩ => ⟨P, h0, fun n s m q => ht.mono _ _ _ _ _ _ (fun b m1 z => ?_) (fun _ _ z => l.ex _ _ _ z) (hs n s m q)⟩, ?_⟩
  · cases b with
    | true => exact h.mono.to z ⟨fun _ _ w => w, l.rt, l.nx, fun _ _ w => w, l.ex⟩
    | false => exact l.nx _ _ z
  · refine PS.imp (ps_while hp ht.run h.run) fun D σ H ⟨s, m, hs, hm, P, ⟨n0, h0⟩, q⟩ => ?_
    refine ⟨fun n σ' H' => ∃ s m, RepS X.K H' s σ' ∧ Ab X.K cl H' m ∧ Ext H H' ∧ P n s m, ⟨n0, s, m, hs, hm, Ext.refl H, h0⟩, ?_⟩
    rintro n σ1 H1 ⟨s1, m1, hs1, hm1, e1, p1⟩
    refine ⟨s1, m1, hs1, hm1, ht.mono _ _ _ _ _ _ (fun b m2 z H2 hm2 e2 => ?_) (fun _ _ z => ex_cX hs1 ((cN_ext e1).ex _ _ _ z)) (q n s1 m1 p1)⟩
    cases b with
    | true =>
      refine ⟨fun σ' H' => ∃ s m, RepS X.K H' s σ' ∧ Ab X.K cl H' m ∧ Ext H H' ∧ ∃ n', n' < n ∧ P n' s m, fun σ' H' ⟨s', m', a1, a2, a3, n', a4, a5⟩ => ⟨n', a4, s', m', a1, a2, a3, a5⟩, s1, m2, hs1.mono e2, hm2, ?_⟩
      have e12 := e1.trans e2
      exact h.mono.to z ⟨fun s' m' w σ' H' a1 a2 a3 => ⟨s', m', a1, a2, e12.trans a3, w⟩, fun _ _ w => cE_ext e12 w, fun _ _ w => cS_ext e12 w, fun s' m' w σ' H' a1 a2 a3 => ⟨s', m', a1, a2, e12.trans a3, w⟩,
        fun _ _ _ w => (cN_ext e12).ex _ _ _ w⟩
    | false => exact z σ1 H2 (hs1.mono e2) hm2 (e1.trans e2)
def sFor (it : TI3) (g : TG3) (u : TS3) : TS3 := fun D s m => it s m (fun l R m1 => ∃ P : Nat → S3 → Mp → Prop, P 0 s m1 ∧ (∀ i s m, i ≤ l.length → P i s m → R m) ∧
  (∀ i d s m, l[i]? = some d → P i s m → g d s m (fun s2 m2 => u { D with nx := P (i + 1), ct := P (i + 1), bk := D.nx } s2 m2)) ∧ ∀ s m, P l.length s m → D.nx s m) (D.ex s)
theorem qs_for {it : TI3} {g : TG3} (hp : PassesOwn (model X.prog X.w) X.A X.env X.xe) (hc : X.calm = true) (hi : QI X cl W tg a it) (hg : QG X cl tg g) (h : QB X cl W sts S)
    (hs : ∀ x, foldedSetIterable a X.env x = pure x) : QS X cl W (.For tg a sts [] pos) (sFor it g S) := by
  refine ⟨fun s m D D' l q => hi.mono _ _ _ _ _ _ (fun ls R m1 ⟨P, h0, h1, h2, h3⟩ => ⟨P, h0, h1, fun i d s m e p => hg.mono.to (h2 i d s m e p) (fun s2 m2 w => h.mono.to w ⟨fun _ _ w => w, l.rt, l.nx, fun _ _ w => w, l.ex⟩), fun s m p => l.nx _ _ (h3 s m p)⟩) (fun _ _ z => l.ex _ _ _ z) q, ?_⟩
  refine PS.imp (ps_for hp hc hi.run hg.run h.run hs) fun D σ H ⟨s, m, hs, hm, q⟩ => ?_
  refine ⟨s, m, hs, hm, hi.mono _ _ _ _ _ _ (fun ls R m1 ⟨P, h0, h1, h2, h3⟩ J H1 w hm1 e1 => ?_) (fun _ _ z => ex_cX hs z) q⟩
  refine ⟨fun i n σ' H' => n = ls.length - i ∧ i ≤ ls.length ∧ ∃ s m, RepS X.K H' s σ' ∧ Ab X.K cl H' m ∧ Ext H1 H' ∧ P i s m, ⟨ls.length, by simp, Nat.zero_le _, s, m1, hs.mono e1, hm1, Ext.refl H1, h0⟩, ?_⟩
  rintro i n σ2 H2 ⟨rfl, hle, s2, m2, hs2, hm2, e2, p2⟩
  obtain ⟨w1, w2⟩ := w i H2 m2 e2 hm2 (h1 i s2 m2 hle p2) hle
  by_cases hlt : i < ls.length
  · obtain ⟨w3, w4⟩ := w2 ls[i] (by simp [hlt])
    refine .inr ⟨w3, fun σ' H' => ∃ s m, RepS X.K H' s σ' ∧ Ab X.K cl H' m ∧ Ext H1 H' ∧ P (i + 1) s m, fun σ' H' ⟨s', m', a1, a2, a3, a4⟩ => ⟨ls.length - (i + 1), by omega, rfl, hlt, s', m', a1, a2, a3, a4⟩, fun x H' y => ?_⟩
    obtain ⟨r5, hm5, e5⟩ := w4 x H' y
    refine ⟨ls[i], s2, m2, r5, hs2.mono e5, hm5, hg.mono _ _ _ _ _ (fun s6 m6 z σ6 H6 hs6 hm6 e6 => ?_) (h2 i ls[i] s2 m2 (by simp [hlt]) p2)⟩
    have e26 := (e2.trans e5).trans e6
    have e16 := e1.trans e26
    exact ⟨s6, m6, hs6, hm6, h.mono.to z ⟨fun s' m' w σ' H' a1 a2 a3 => ⟨s', m', a1, a2, e26.trans a3, w⟩, fun _ _ w => cE_ext e16 w, fun _ _ w => cS_ext e16 w, fun s' m' w σ' H' a1 a2 a3 => ⟨s', m', a1, a2, e26.trans a3, w⟩,
      fun _ _ _ w => (cN_ext e16).ex _ _ _ w⟩⟩
  · have e : i = ls.length := by omega
    subst e
    exact .inl ⟨w1 rfl, h3 s2 m2 p2 σ2 H2 hs2 hm2 (e1.trans e2)⟩

/-! ### a def -/
def start3 (N : List Str) (ds : List D) : S3 := ds.map some ++ List.replicate (N.length - ds.length) none
theorem start_up {K : PySem.W.Frag} {H : Hp} {N : List Str} {ds : List D} {vs : List V} (r : Reps K H ds vs) : RepS K H (start3 N ds) (L2.start N vs) := by
  have hl := r.length
  refine ⟨by unfold start3 L2.start; simp [hl], fun i d e => ?_⟩
  unfold start3 at e
  unfold L2.start
  by_cases h : i < ds.length
  · rw [List.getElem?_append_left (by simpa using h), List.getElem?_map] at e
    cases q : ds[i]? with
    | none => rw [q] at e; cases e
    | some d' =>
      rw [q] at e
      cases e
      obtain ⟨v, h1, h2⟩ := r.get q
      exact ⟨v, by rw [List.getElem?_append_left (by simpa [← hl] using h), List.getElem?_map, h1]; rfl, h2⟩
  · rw [List.getElem?_append_right (by simpa using Nat.le_of_not_lt h)] at e
    obtain ⟨h1, h2⟩ := List.getElem?_eq_some_iff.mp e
    rw [List.getElem_replicate] at h2
    cases h2
def UpK (k : K3) : Prop := ∀ d m m', Le m m' → k d m → k d m'
def UpX (k : X3) : Prop := ∀ d m m', Le m m' → k d m → k d m'
/-- the body keeps the promise; L: the level -/
def BodyOk (t : Nat → TS3) (N : List Str) (S : FSpec) (n : Nat) : Prop := ∀ (L : Nat) (al : S.al) (ds : List D) (m : Mp) (k : K3) (x : X3), S.lev al ≤ L → UpK k → UpX x → S.pre al ds m → (∀ d m', S.post al m d m' → k d m') → (∀ e m', S.exc al m e m' → x e m') →
  t L { nx := fun _ m' => k .non m', rt := k, ex := fun _ => x } (start3 N ds) m
theorem def_ok {P : Program} {w : World} {K : PySem.W.Frag} {mg : Str → Option Value} {base : Heap} {x qual : Str} {st : Stmt} {f : Addr} {fd : FuncData} {N ps : List Str} {k : Nat} {sp : FSpec} {t : Nat → TS3}
    (F : Fun K x qual st f fd) (S : FnScope N ps (defScope st)) (len : ∀ al ds m, sp.pre al ds m → ds.length = ps.length) (bo : BodyOk t N sp ps.length)
    (hq : ∀ (cdv : Value) (A : Around) (outer : List Env) (s : Shared) (H : Hp) (E : XK), Room k (A.deeper (envOfC qual (defScope st) s.heap.objs.size f cdv)) →
      QB (cxOf (L2.CX P w) P w K mg base N qual (defScope st) f cdv A outer s H E) cl (fun c d _ H => E c d H) (defBody st) (t k)) :
    FnOk P w K mg base (L2.CX P w) (k + 1) f fd ps (liftSp K cl sp (k + 1)) := by
  refine F.okX S (fun vs H Q E ⟨ds, m, al, r, _, _, hp, _⟩ => by rw [← r.length]; exact len al ds m hp) (fun cdv A outer s H vs Q E hr h => ?_)
  obtain ⟨ds, m, al, r, hm, hl, hp, hk, hx⟩ := h
  refine ⟨_, (hq cdv A outer s H E hr).run, start3 N ds, m, start_up r, hm, ?_⟩
  refine (hq cdv A outer s H E hr).mono.to (bo k al ds m (cE K cl H Q) (fun x m' => ∀ c dd H', RepX K cl H' x c dd → Ab K cl H' m' → Ext H H' → E c dd H') (Nat.le_of_lt_succ hl) (fun d m m' l z => cE_le l z) (fun d m m' l z c dd H' a b e => z c dd H' a (b.le l) e) hp hk hx) ?_
  exact ⟨fun s' m' z σ' H' hs' hm' e => z _ H' rfl hm' e, fun _ _ z => z, fun _ _ z => z.elim, fun _ _ z => z.elim, fun s' y m' z σ' c dd H' _ a b e => z c dd H' a b e⟩
end
end PV

/-! Methods of built-in classes; comprehensions. -/
namespace PV
open PySem L2 PyProof.Rows
section
variable {X : Cx} {cl : Cl} {W : WX} {a b c e tg o : Expr} {A B C : TE3} {rest es : List Expr} {R : TA3} {pos p apos cpos : Pos} {st : Stmt} {sts sts' : List Stmt} {S S' : TS3}

/-- o.m(..) of a value of the built-in class T -/
def tyD (T : String) (o : D) (m : Mp) : Prop := (T = "str" ∧ ∃ z, o = .str z) ∨ (T = "list" ∧ ∃ q l, o = .ref q ∧ RL m q l) ∨ (T = "dict" ∧ ∃ q, o = .ref q ∧ ((∃ kvs, m q = some (.dK kvs)) ∨ ∃ kvs, m q = some (.dT kvs)))
def eMt (T : String) (f : D → List D → Mp → K3 → Prop) (O : TE3) (R : TA3) : TE3 := fun s m k x => O s m (fun o m1 => tyD T o m1 ∧ R s m1 (fun ds m2 => f o ds m2 k) x) x
def eMt0 (T : String) (f : D → List D → Mp → K3 → Prop) (O : TE3) : TE3 := fun s m k x => O s m (fun o m1 => tyD T o m1 ∧ f o [] m1 k) x
def MonoM (f : D → List D → Mp → K3 → Prop) : Prop := ∀ o ds m k k', (∀ d m, k d m → k' d m) → f o ds m k → f o ds m k'
def UpM (X : Cx) (cl : Cl) (f : D → List D → Mp → K3 → Prop) (r : V → List V → Hp → VK → Prop) : Prop :=
  ∀ (H : Hp) (m : Mp) (o : D) (v : V) (ds : List D) (vs : List V) (Q : VK), Rep X.K H o v → Reps X.K H ds vs → Ab X.K cl H m → f o ds m (cE X.K cl H Q) → r v vs H Q
theorem tyD.up {T : String} {d : D} {m : Mp} {H : Hp} {v : V} (h : tyD T d m) (r : Rep X.K H d v) (hm : Ab X.K cl H m) : tyV X.K T v H := by
  rcases h with ⟨rfl, z, rfl⟩ | ⟨rfl, q, l, rfl, h⟩ | ⟨rfl, q, rfl, h⟩
  · have r' : v = .str z := r
    subst r'
    rfl
  · have r' : v = .ref q := r
    subst r'
    obtain ⟨vs, h1, _⟩ := hm.rl h
    exact .inl ⟨rfl, vs, h1⟩
  · have r' : v = .ref q := r
    subst r'
    rcases h with ⟨kvs, h⟩ | ⟨kvs, h⟩
    · obtain ⟨ws, h1, _⟩ := hm.1 q _ h
      exact .inr (.inr (.inl ⟨rfl, .inl ⟨ws, h1⟩⟩))
    · obtain ⟨ws, h1, _⟩ := hm.1 q _ h
      exact .inr (.inr (.inl ⟨rfl, .inr ⟨ws, h1⟩⟩))
theorem q_mt {T id : String} {name : Str} {f : D → List D → Mp → K3 → Prop} {r : V → List V → Hp → VK → Prop} (pa : PlainAttrs T) (slot : Slot T name id) (hty : typeOf (.builtin id) = pure (.type "method_descriptor")) (hm : MtR X id r) (u : UpM X cl f r) (mf : MonoM f)
    (ho : QE X cl W o A) (ha : QA X cl W (e :: es) R) (hbase : attributeBase o name X.env (eval o X.env) = eval o X.env)
    (hfew : ((backTo cpos (starEach (e :: es) X.env)).all (fun x => !x.1) && (backToKw cpos (keywordEach [] X.env)).all (fun x => x.1.isSome)
      && decide ((e :: es).length + ([] : List Keyword).length + (if ([] : List Keyword).isEmpty then 0 else 1) < 30)) = true)
    (hline : (apos.endLine == cpos.line) = true) (hs : starEach (e :: es) X.env = (false, eval e X.env) :: starEach es X.env) (hplain : (backTo cpos (starEach es X.env)).any (·.1) = false) :
    QE X cl W (.Call (.Attribute o name apos) (e :: es) [] cpos) (eMt T f A R) :=
  ⟨fun s m k k' x x' hk hx q => ho.mono _ _ _ _ _ _ (fun d m1 ⟨z, y⟩ => ⟨z, ha.mono _ _ _ _ _ _ (fun ds m2 w => mf _ _ _ _ _ hk w) hx y⟩) hx q,
   PE.imp (pe_bm pa slot hty hm ho.run ha.run hbase hfew hline hs hplain) fun σ H Q ⟨s, m, hs, hm, q⟩ => ⟨s, m, hs, hm, ho.mono _ _ _ _ _ _ (fun d m1 ⟨z, y⟩ v H1 r1 hm1 e1 =>
    ⟨z.up r1 hm1, s, m1, hs.mono e1, hm1, ha.mono _ _ _ _ _ _ (fun ds m2 w vs H2 r2 hm2 e2 => u H2 m2 d v ds vs Q (r1.mono e2) r2 hm2 (mf _ _ _ _ _ (fun _ _ y => cE_ext (e1.trans e2) y) w)) (fun _ _ z => cX_ext e1 z) y⟩) (fun _ _ z => z) q⟩⟩
theorem q_mt0 {T id : String} {name : Str} {f : D → List D → Mp → K3 → Prop} {r : V → List V → Hp → VK → Prop} (pa : PlainAttrs T) (slot : Slot T name id) (hty : typeOf (.builtin id) = pure (.type "method_descriptor")) (hm : MtR X id r) (u : UpM X cl f r) (mf : MonoM f)
    (ho : QE X cl W o A) (hbase : attributeBase o name X.env (eval o X.env) = eval o X.env) (hline : (apos.endLine == cpos.line) = true) : QE X cl W (.Call (.Attribute o name apos) [] [] cpos) (eMt0 T f A) :=
  ⟨fun s m k k' x x' hk hx q => ho.mono _ _ _ _ _ _ (fun d m1 ⟨z, y⟩ => ⟨z, mf _ _ _ _ _ hk y⟩) hx q,
   PE.imp (pe_bm0 pa slot hty hm ho.run hbase hline) fun σ H Q ⟨s, m, hs, hm, q⟩ => ⟨s, m, hs, hm, ho.mono _ _ _ _ _ _ (fun d m1 ⟨z, y⟩ v H1 r1 hm1 e1 =>
    ⟨z.up r1 hm1, u H1 m1 d v [] [] Q r1 rfl hm1 (mf _ _ _ _ _ (fun _ _ y => cE_ext e1 y) y)⟩) (fun _ _ z => z) q⟩⟩
def fAppend (o : D) (ds : List D) (m : Mp) (k : K3) : Prop := ∃ q l y, o = .ref q ∧ ds = [y] ∧ m q = some (.lst l) ∧ l.length < sizeLine ∧ k .non (mset m q (.lst (l ++ [y])))
theorem up_append : UpM X cl fAppend rAppend := fun H m o v ds vs Q r1 r2 hm ⟨q, l, y, e1, e2, h1, h2, h3⟩ => by
  subst e1 e2
  have r' : v = .ref q := r1
  subst r'
  obtain ⟨w, rfl, rw⟩ := reps1 r2
  obtain ⟨us, q1, q2⟩ := hm.1 q _ h1
  exact ⟨q, us, w, rfl, rfl, q1, by rw [← q2.length]; exact h2, h3 _ _ rfl (put_lst hm q1 (q2.append (Reps.one rw))) (ext_lst q1)⟩
theorem mono_append : MonoM fAppend := fun o ds m k k' hk ⟨q, l, y, e1, e2, h1, h2, h3⟩ => ⟨q, l, y, e1, e2, h1, h2, hk _ _ h3⟩
def fExtend (o : D) (ds : List D) (m : Mp) (k : K3) : Prop := ∃ q q' l r, o = .ref q ∧ ds = [.ref q'] ∧ m q = some (.lst l) ∧ m q' = some (.lst r) ∧ l.length + r.length ≤ sizeLine ∧ k .non (mset m q (.lst (l ++ r)))
theorem up_extend : UpM X cl fExtend rExtend := fun H m o v ds vs Q r1 r2 hm ⟨q, q', l, r, e1, e2, h1, h2, h3, h4⟩ => by
  subst e1 e2
  have r' : v = .ref q := r1
  subst r'
  obtain ⟨w, rfl, rw⟩ := reps1 r2
  have rw' : w = .ref q' := rw
  subst rw'
  obtain ⟨us, q1, q2⟩ := hm.1 q _ h1
  obtain ⟨ws, q3, q4⟩ := hm.1 q' _ h2
  exact ⟨q, q', us, ws, rfl, rfl, q1, q3, by rw [← q2.length, ← q4.length]; exact h3, h4 _ _ rfl (put_lst hm q1 (q2.append q4)) (ext_lst q1)⟩
theorem mono_extend : MonoM fExtend := fun o ds m k k' hk ⟨q, q', l, r, e1, e2, h1, h2, h3, h4⟩ => ⟨q, q', l, r, e1, e2, h1, h2, h3, hk _ _ h4⟩
def fPop (o : D) (ds : List D) (m : Mp) (k : K3) : Prop := ∃ q l y, o = .ref q ∧ ds = [] ∧ m q = some (.lst l) ∧ l[l.length - 1]? = some y ∧ k y (mset m q (.lst l.dropLast))
theorem up_pop : UpM X cl fPop rPop := fun H m o v ds vs Q r1 r2 hm ⟨q, l, y, e1, e2, h1, h2, h3⟩ => by
  subst e1 e2
  have r' : v = .ref q := r1
  subst r'
  cases r2
  obtain ⟨us, q1, q2⟩ := hm.1 q _ h1
  obtain ⟨u, e3, r3⟩ := q2.get h2
  exact ⟨q, us, u, rfl, rfl, q1, by rw [← q2.length]; exact e3, h3 _ _ (r3.mono (ext_lst q1)) (put_lst hm q1 q2.dropLast) (ext_lst q1)⟩
theorem mono_pop : MonoM fPop := fun o ds m k k' hk ⟨q, l, y, e1, e2, h1, h2, h3⟩ => ⟨q, l, y, e1, e2, h1, h2, hk _ _ h3⟩
def fJoin (o : D) (ds : List D) (m : Mp) (k : K3) : Prop := ∃ (z : Str) (ys : List Str), o = .str z ∧ ((∃ q, ds = [.ref q] ∧ RL m q (ys.map D.str)) ∨ ds = [.tup (ys.map D.str)]) ∧ (ys.map (·.length)).sum + ys.length * z.length ≤ 16777216 ∧ k (.str (Txt.join z ys)) m
theorem up_join : UpM X cl fJoin (fun x xs H Q => ∃ a p, ∃ ys : List Str, x = .str a ∧ xs = [.ref p] ∧ (SqL X.K H p (ys.map V.str) ∨ SqT X.K H p (ys.map V.str)) ∧ (ys.map (·.length)).sum + ys.length * a.length ≤ 16777216 ∧ Q (.str (Txt.join a ys)) H) :=
  fun H m o v ds vs Q r1 r2 hm ⟨z, ys, e1, e2, h1, h2⟩ => by
  subst e1
  have r' : v = .str z := r1
  subst r'
  rcases e2 with ⟨q, e2, h3⟩ | e2
  · subst e2
    obtain ⟨w, rfl, rw⟩ := reps1 r2
    have rw' : w = .ref q := rw
    subst rw'
    obtain ⟨us, q1, q2⟩ := hm.rl h3
    have e := q2.strs
    subst e
    exact ⟨z, q, ys, rfl, rfl, .inl q1, h1, h2 _ _ rfl hm (Ext.refl H)⟩
  · subst e2
    obtain ⟨w, rfl, q, us, rfl, q1, q2⟩ := reps1 r2
    have e := q2.strs
    subst e
    exact ⟨z, q, ys, rfl, rfl, .inr q1, h1, h2 _ _ rfl hm (Ext.refl H)⟩
theorem mono_join : MonoM fJoin := fun o ds m k k' hk ⟨z, ys, e1, e2, h1, h2⟩ => ⟨z, ys, e1, e2, h1, hk _ _ h2⟩

/-! ### comprehensions -/
def noX : X3 := fun _ _ => False
def cTest (t : TT3) (s : S3) (m : Mp) (k : Bool → Mp → Prop) : Prop := t s m k noX
/-- [elt for x in it if t], x in slot i -/
def eLc (it : TI3) (i : Nat) (t : TT3) (B : TE3) : TE3 := fun s m k x => it s m (fun l R m1 => ∀ q, m1 q = none → ∃ P : Nat → Mp → Prop, P 0 (mset m1 q (.lst [])) ∧ (∀ j m, j ≤ l.length → P j m → R m) ∧
  (∀ j d m, l[j]? = some d → P j m → t (s.set i (some d)) m (fun b m3 => if b = true then B (s.set i (some d)) m3 (fun y m4 => ∃ acc, m4 q = some (.lst acc) ∧ acc.length < sizeLine ∧ P (j + 1) (mset m4 q (.lst (acc ++ [y])))) noX else P (j + 1) m3) noX) ∧
  ∀ m, P l.length m → k (.ref q) m) x
/-- .. for x, y in it, in slots i and j -/
def eLc2 (it : TI3) (i i' : Nat) (t : TT3) (B : TE3) : TE3 := fun s m k x => it s m (fun l R m1 => ∀ q, m1 q = none → ∃ P : Nat → Mp → Prop, P 0 (mset m1 q (.lst [])) ∧ (∀ j m, j ≤ l.length → P j m → R m) ∧
  (∀ j d m, l[j]? = some d → P j m → ∃ u v, d = .tup [u, v] ∧ t ((s.set i (some u)).set i' (some v)) m (fun b m3 => if b = true then B ((s.set i (some u)).set i' (some v)) m3 (fun y m4 => ∃ acc, m4 q = some (.lst acc) ∧ acc.length < sizeLine ∧ P (j + 1) (mset m4 q (.lst (acc ++ [y])))) noX else P (j + 1) m3) noX) ∧
  ∀ m, P l.length m → k (.ref q) m) x
def tYes3 : TT3 := fun _ m k _ => k true m
structure QTs (X : Cx) (cl : Cl) (W : WX) (es : List Expr) (T : TT3) : Prop where
  mono : MonoT T
  run : PTs X es (upT X.K cl W T)
theorem PTs.imp {t t' : TT} (h : PTs X es t) (i : ∀ σ H Q, t' σ H Q → t σ H Q) : PTs X es t' := ⟨fun pins s σ H Q I q => h.run pins s σ H Q I (i σ H Q q)⟩
theorem qts_nil : QTs X cl W [] tYes3 := ⟨fun s m k k' x x' hk hx h => hk _ _ h, PTs.imp pts_nil fun σ H Q ⟨s, m, hs, hm, q⟩ => q H hm (Ext.refl H)⟩
theorem qts_one {T : TT3} (h : QT X cl W e T) : QTs X cl W [e] T := ⟨h.mono, pts_one h.run⟩
abbrev W0 : WX := fun _ _ _ _ => False
theorem mono_lc {it : TI3} {i : Nat} {t : TT3} (hi : MonoI it) (ht : MonoT t) (hb : MonoE B) : MonoE (eLc it i t B) := fun s m k k' x x' hk hx q =>
  hi _ _ _ _ _ _ (fun l R m1 z p hp => let ⟨P, h0, h1, h2, h3⟩ := z p hp; ⟨P, h0, h1, h2, fun m y => hk _ _ (h3 m y)⟩) hx q
theorem mono_lc2 {it : TI3} {i i' : Nat} {t : TT3} (hi : MonoI it) (ht : MonoT t) (hb : MonoE B) : MonoE (eLc2 it i i' t B) := fun s m k k' x x' hk hx q =>
  hi _ _ _ _ _ _ (fun l R m1 z p hp => let ⟨P, h0, h1, h2, h3⟩ := z p hp; ⟨P, h0, h1, h2, fun m y => hk _ _ (h3 m y)⟩) hx q
theorem cX0 {K : PySem.W.Frag} {H : Hp} {σ : L2.St} : ∀ e m, noX e m → cX K cl W0 H σ e m := fun _ _ h => h.elim
theorem RepS.wipe1 {K : PySem.W.Frag} {H : Hp} {s : S3} {σ : L2.St} {d : D} {v : V} (h : RepS K H s σ) (r : Rep K H d v) (i : Nat) : RepS K H (s.set i (some d)) ((σ.set i none).set i (some v)) := by
  rw [List.set_set]
  exact h.set r i
theorem lc_up {it : TI3} {i : Nat} {t : TT3} (hi : MonoI it) (ht : MonoT t) (hb : MonoE B) (σ : L2.St) (H : Hp) (Q : VK) (h : upE X.K cl W (eLc it i t B) σ H Q) :
    tLc (upI X.K cl W it) (gName i) (upT X.K cl W0 t) (upE X.K cl W0 B) [i] σ H Q := by
  obtain ⟨s, m, hs, hm, h⟩ := h
  refine ⟨s, m, hs, hm, hi _ _ _ _ _ _ (fun l R m1 z J H1 w hm1 e1 p hp => ?_) (fun _ _ z => z) h⟩
  obtain ⟨P, h0, h1, h2, h3⟩ := z p (hm1.free hp)
  have e2 := Ext.new (o := .lst []) hp
  refine ⟨fun j n H' => n = l.length - j ∧ j ≤ l.length ∧ ∃ m, Ab X.K cl H' m ∧ Ext H1 H' ∧ P j m, ⟨l.length, by simp, Nat.zero_le _, _, new_lst hm1 hp (l := []) rfl, e2, h0⟩, ?_⟩
  rintro j n H3 ⟨rfl, hle, m3, hm3, e3, p3⟩
  obtain ⟨w1, w2⟩ := w j H3 m3 e3 hm3 (h1 j m3 hle p3) hle
  by_cases hlt : j < l.length
  · obtain ⟨w3, w4⟩ := w2 l[j] (by simp [hlt])
    refine .inr ⟨w3, fun H' => ∃ m, Ab X.K cl H' m ∧ Ext H1 H' ∧ P (j + 1) m, fun H' ⟨m', a1, a2, a3⟩ => ⟨l.length - (j + 1), by omega, rfl, hlt, m', a1, a2, a3⟩, fun x H' y => ?_⟩
    obtain ⟨r5, hm5, e5⟩ := w4 x H' y
    have e15 := e3.trans e5
    have hs5 := hs.mono (e1.trans e15)
    show wipe (((wipe σ [i])).set i (some x)) [i] = wipe σ [i] ∧ _
    refine ⟨by simp only [wipe, List.set_set], ?_⟩
    refine ⟨s.set i (some l[j]), m3, by simp only [wipe]; exact hs5.wipe1 r5 i, hm5, ht _ _ _ _ _ _ (fun b m6 z6 H6 hm6 e6 => ?_) cX0 (h2 j l[j] m3 (by simp [hlt]) p3)⟩
    cases b with
    | false => exact ⟨m6, hm6, e15.trans e6, z6⟩
    | true =>
      refine ⟨s.set i (some l[j]), m6, by simp only [wipe]; exact (hs5.wipe1 r5 i).mono e6, hm6, hb _ _ _ _ _ _ (fun d m7 z7 y7 H7 r7 hm7 e7 => ?_) cX0 z6⟩
      obtain ⟨acc, q1, q2, q3⟩ := z7
      obtain ⟨vs, q4, q5⟩ := hm7.1 p _ q1
      exact ⟨vs, q4, by rw [← q5.length]; exact q2, _, put_lst hm7 q4 (q5.append (Reps.one r7)), ((e15.trans e6).trans e7).trans (ext_lst q4), q3⟩
  · have e : j = l.length := by omega
    subst e
    exact .inl ⟨w1 rfl, h3 m3 p3 _ H3 rfl hm3 (e1.trans e3)⟩
theorem lc2_up {it : TI3} {i i' : Nat} {t : TT3} (hne : i ≠ i') (hi : MonoI it) (ht : MonoT t) (hb : MonoE B) (σ : L2.St) (H : Hp) (Q : VK) (h : upE X.K cl W (eLc2 it i i' t B) σ H Q) :
    tLc (upI X.K cl W it) (gTup X.K 2 (gCons (gName i) (gCons (gName i') gNil))) (upT X.K cl W0 t) (upE X.K cl W0 B) [i, i'] σ H Q := by
  obtain ⟨s, m, hs, hm, h⟩ := h
  refine ⟨s, m, hs, hm, hi _ _ _ _ _ _ (fun l R m1 z J H1 w hm1 e1 p hp => ?_) (fun _ _ z => z) h⟩
  obtain ⟨P, h0, h1, h2, h3⟩ := z p (hm1.free hp)
  have e2 := Ext.new (o := .lst []) hp
  refine ⟨fun j n H' => n = l.length - j ∧ j ≤ l.length ∧ ∃ m, Ab X.K cl H' m ∧ Ext H1 H' ∧ P j m, ⟨l.length, by simp, Nat.zero_le _, _, new_lst hm1 hp (l := []) rfl, e2, h0⟩, ?_⟩
  rintro j n H3 ⟨rfl, hle, m3, hm3, e3, p3⟩
  obtain ⟨w1, w2⟩ := w j H3 m3 e3 hm3 (h1 j m3 hle p3) hle
  by_cases hlt : j < l.length
  · obtain ⟨w3, w4⟩ := w2 l[j] (by simp [hlt])
    refine .inr ⟨w3, fun H' => ∃ m, Ab X.K cl H' m ∧ Ext H1 H' ∧ P (j + 1) m, fun H' ⟨m', a1, a2, a3⟩ => ⟨l.length - (j + 1), by omega, rfl, hlt, m', a1, a2, a3⟩, fun x H' y => ?_⟩
    obtain ⟨r5, hm5, e5⟩ := w4 x H' y
    have e15 := e3.trans e5
    have hs5 := hs.mono (e1.trans e15)
    obtain ⟨u, v, ed, h4⟩ := h2 j l[j] m3 (by simp [hlt]) p3
    rw [ed] at r5
    obtain ⟨q, us, rfl, q1, q2⟩ := r5
    obtain ⟨x1, x2, rfl, r1, r2⟩ := reps2 q2
    have hw : ∀ (x1 x2 : V), wipe (((wipe σ [i, i']).set i (some x1)).set i' (some x2)) [i, i'] = wipe σ [i, i'] := fun x1 x2 => by
      simp only [wipe, List.set_set]
      rw [List.set_comm _ _ hne]
      simp only [List.set_set]
    have hS : ∀ {H'}, Ext H' H' → RepS X.K H' s σ → Rep X.K H' u x1 → Rep X.K H' v x2 → RepS X.K H' ((s.set i (some u)).set i' (some v)) (((wipe σ [i, i']).set i (some x1)).set i' (some x2)) := fun {H'} _ a b c => by
      have : ((wipe σ [i, i']).set i (some x1)).set i' (some x2) = (σ.set i (some x1)).set i' (some x2) := by
        simp only [wipe, List.set_set]
        rw [List.set_comm (some x1) (some x2) hne]
        rw [List.set_comm (some x1) (some x2) hne]
        simp only [List.set_set]
      rw [this]
      exact (a.set b i).set c i'
    refine ⟨q, [x1, x2], rfl, q1, rfl, x1, [x2], rfl, x2, [], rfl, rfl, hw x1 x2, ?_⟩
    refine ⟨(s.set i (some u)).set i' (some v), m3, hS (Ext.refl _) hs5 r1 r2, hm5, ht _ _ _ _ _ _ (fun b m6 z6 H6 hm6 e6 => ?_) cX0 h4⟩
    cases b with
    | false => exact ⟨m6, hm6, e15.trans e6, z6⟩
    | true =>
      refine ⟨(s.set i (some u)).set i' (some v), m6, (hS (Ext.refl _) hs5 r1 r2).mono e6, hm6, hb _ _ _ _ _ _ (fun d m7 z7 y7 H7 r7 hm7 e7 => ?_) cX0 z6⟩
      obtain ⟨acc, q1, q2, q3⟩ := z7
      obtain ⟨vs, q4, q5⟩ := hm7.1 p _ q1
      exact ⟨vs, q4, by rw [← q5.length]; exact q2, _, put_lst hm7 q4 (q5.append (Reps.one r7)), ((e15.trans e6).trans e7).trans (ext_lst q4), q3⟩
  · have e : j = l.length := by omega
    subst e
    exact .inl ⟨w1 rfl, h3 m3 p3 _ H3 rfl hm3 (e1.trans e3)⟩
/-- the contexts of a comprehension's block -/
abbrev Blks (X : Cx) (scope : Scope) (f : Cx → Prop) : Prop := ∀ (s : Shared) (H : Hp) (C : Addr) (cz : List (Str × Addr)) (fp : List Addr), f (X.blk s H scope (compEnvC scope cz C X.env) fp)
variable {ifs : List Expr} {scope : Scope} {it : TI3} {t : TT3} {x x' : Str} {i i' j k : Nat} {p1 p2 p3 : Pos}
theorem q_lc (hc : X.calm = true) (hN : X.N.Nodup) (hi : QI X cl W (.Name x p1) a it) (ok : BlkOk X.N X.env.scope scope [(x, i)])
    (hg : Blks X scope fun Y => PG Y (.Name x p1) (gName i)) (ht : Blks X scope fun Y => QTs Y cl W0 ifs t) (hb : Blks X scope fun Y => QE Y cl W0 e B) (hs : ∀ z, foldedSetIterable a X.env z = pure z) :
    QE X cl W (.ListComp e [⟨.Name x p1, a, ifs, 0⟩] scope pos) (eLc it i t B) :=
  ⟨mono_lc hi.mono (ht X.s_0 X.H_0 0 [] []).mono (hb X.s_0 X.H_0 0 [] []).mono, PE.imp (pe_lc hc hN hi.run ok hg (fun s H C cz fp => (ht s H C cz fp).run) (fun s H C cz fp => (hb s H C cz fp).run) hs) (lc_up hi.mono (ht X.s_0 X.H_0 0 [] []).mono (hb X.s_0 X.H_0 0 [] []).mono)⟩
theorem q_lc2 (hne : i ≠ i') (hc : X.calm = true) (hN : X.N.Nodup) (hi : QI X cl W (.Tuple [.Name x p1, .Name x' p2] k p3) a it) (ok : BlkOk X.N X.env.scope scope [(x, i), (x', i')])
    (hg : Blks X scope fun Y => PG Y (.Tuple [.Name x p1, .Name x' p2] k p3) (gTup Y.K 2 (gCons (gName i) (gCons (gName i') gNil)))) (ht : Blks X scope fun Y => QTs Y cl W0 ifs t) (hb : Blks X scope fun Y => QE Y cl W0 e B) (hs : ∀ z, foldedSetIterable a X.env z = pure z) :
    QE X cl W (.ListComp e [⟨.Tuple [.Name x p1, .Name x' p2] k p3, a, ifs, 0⟩] scope pos) (eLc2 it i i' t B) :=
  ⟨mono_lc2 hi.mono (ht X.s_0 X.H_0 0 [] []).mono (hb X.s_0 X.H_0 0 [] []).mono, PE.imp (pe_lc hc hN hi.run ok hg (fun s H C cz fp => (ht s H C cz fp).run) (fun s H C cz fp => (hb s H C cz fp).run) hs) (lc2_up hne hi.mono (ht X.s_0 X.H_0 0 [] []).mono (hb X.s_0 X.H_0 0 [] []).mono)⟩
theorem PGn {Y : Cx} (hN : Y.N.Nodup) (hi : Y.N[i]? = some x) (hx : Loc Y.env.scope x) (hf : Y.fn x = true ∨ Y.env.scope.names.lookup x = some .local) : PG Y (.Name x p1) (gName i) := pg_name hN hi hx hf
/-- y = [..] on one line -/
theorem qs_lc {y : Str} {py spos : Pos} {n : Nat} (hc : X.calm = true) (hN : X.N.Nodup) (hy : X.N[n]? = some y) (hyl : X.env.scope.names.lookup y = some .local)
    (hsw : swapsWith (.ListComp e [⟨.Name x p1, a, ifs, 0⟩] scope pos) (some (.Name y py)) spos.line X.env = pure true) (hi : QI X cl W (.Name x p1) a it) (ok : BlkOk X.N X.env.scope scope [(x, i)])
    (hg : Blks X scope fun Y => PG Y (.Name x p1) (gName i)) (ht : Blks X scope fun Y => QTs Y cl W0 ifs t) (hb : Blks X scope fun Y => QE Y cl W0 e B) (hs : ∀ z, foldedSetIterable a X.env z = pure z) :
    QS X cl W (.Assign [.Name y py] (.ListComp e [⟨.Name x p1, a, ifs, 0⟩] scope pos) spos) (sAsg (eLc it i t B) (gNm n)) :=
  ⟨fun s m D D' l q => mono_lc hi.mono (ht X.s_0 X.H_0 0 [] []).mono (hb X.s_0 X.H_0 0 [] []).mono _ _ _ _ _ _ (fun _ _ z => l.nx _ _ z) (fun _ _ z => l.ex _ _ _ z) q,
   PS.imp (ps_setLc hc hN hy hyl hsw hi.run ok hg (fun s H C cz fp => (ht s H C cz fp).run) (fun s H C cz fp => (hb s H C cz fp).run) hs) fun D σ H ⟨s, m, hs, hm, q⟩ =>
    lc_up hi.mono (ht X.s_0 X.H_0 0 [] []).mono (hb X.s_0 X.H_0 0 [] []).mono σ H _ ⟨s, m, hs, hm, mono_lc hi.mono (ht X.s_0 X.H_0 0 [] []).mono (hb X.s_0 X.H_0 0 [] []).mono _ _ _ _ _ _ (fun d m1 z v H1 r hm1 e1 => z _ H1 ((hs.mono e1).set r n) hm1 e1) (fun _ _ z => ex_cX hs z) q⟩⟩
theorem qs_lc2 {y : Str} {py spos : Pos} {n : Nat} (hne : i ≠ i') (hc : X.calm = true) (hN : X.N.Nodup) (hy : X.N[n]? = some y) (hyl : X.env.scope.names.lookup y = some .local)
    (hsw : swapsWith (.ListComp e [⟨.Tuple [.Name x p1, .Name x' p2] k p3, a, ifs, 0⟩] scope pos) (some (.Name y py)) spos.line X.env = pure true) (hi : QI X cl W (.Tuple [.Name x p1, .Name x' p2] k p3) a it) (ok : BlkOk X.N X.env.scope scope [(x, i), (x', i')])
    (hg : Blks X scope fun Y => PG Y (.Tuple [.Name x p1, .Name x' p2] k p3) (gTup Y.K 2 (gCons (gName i) (gCons (gName i') gNil)))) (ht : Blks X scope fun Y => QTs Y cl W0 ifs t) (hb : Blks X scope fun Y => QE Y cl W0 e B) (hs : ∀ z, foldedSetIterable a X.env z = pure z) :
    QS X cl W (.Assign [.Name y py] (.ListComp e [⟨.Tuple [.Name x p1, .Name x' p2] k p3, a, ifs, 0⟩] scope pos) spos) (sAsg (eLc2 it i i' t B) (gNm n)) :=
  ⟨fun s m D D' l q => mono_lc2 hi.mono (ht X.s_0 X.H_0 0 [] []).mono (hb X.s_0 X.H_0 0 [] []).mono _ _ _ _ _ _ (fun _ _ z => l.nx _ _ z) (fun _ _ z => l.ex _ _ _ z) q,
   PS.imp (ps_setLc hc hN hy hyl hsw hi.run ok hg (fun s H C cz fp => (ht s H C cz fp).run) (fun s H C cz fp => (hb s H C cz fp).run) hs) fun D σ H ⟨s, m, hs, hm, q⟩ =>
    lc2_up hne hi.mono (ht X.s_0 X.H_0 0 [] []).mono (hb X.s_0 X.H_0 0 [] []).mono σ H _ ⟨s, m, hs, hm, mono_lc2 hi.mono (ht X.s_0 X.H_0 0 [] []).mono (hb X.s_0 X.H_0 0 [] []).mono _ _ _ _ _ _ (fun d m1 z v H1 r hm1 e1 => z _ H1 ((hs.mono e1).set r n) hm1 e1) (fun _ _ z => ex_cX hs z) q⟩⟩
end
end PV

/-! Steps through readings. -/
namespace PV
open PySem L2 PyProof.Rows
section
variable {T : Tb} {L i j : Nat} {s : S3} {m : Mp} {k : K3} {x : X3} {d u v : D} {A B C : TE3} {R : TA3} {nx bk ct : S3 → Mp → Prop} {rt : K3} {ex : S3 → X3} {t t' : TS3} {c c' : TT3} {kb : Bool → Mp → Prop} {P Q : Prop} {p q : Addr} {l r : List D}
theorem x_call {S : FSpec} {ds : List D} (h : T i S) (a : S.al) (hl : S.lev a < L) (hp : S.pre a ds m) (hk : ∀ d m', S.post a m d m' → k d m') (he : ∀ e m', S.exc a m e m' → x e m') : callS T L i ds m k x := ⟨S, h, a, hl, hp, hk, he⟩
/-! statements -/
theorem x_seq (h : t ⟨fun s' m' => t' ⟨nx, rt, bk, ct, ex⟩ s' m', rt, bk, ct, ex⟩ s m) : sSeq t t' ⟨nx, rt, bk, ct, ex⟩ s m := h
/-- ways meet: J stands there -/
theorem x_seqJ (J : S3 → Mp → Prop) (h2 : ∀ s m, J s m → t' ⟨nx, rt, bk, ct, ex⟩ s m) (h1 : ∀ n, (∀ s m, J s m → n s m) → t ⟨n, rt, bk, ct, ex⟩ s m) : sSeqJ t t' ⟨nx, rt, bk, ct, ex⟩ s m := h1 _ h2
theorem x_seqN (h : t ⟨fun s' m' => t' ⟨nx, rt, bk, ct, ex⟩ s' m', rt, bk, ct, ex⟩ s m) : sSeqJ t t' ⟨nx, rt, bk, ct, ex⟩ s m := h
theorem x_nil (h : nx s m) : sNil ⟨nx, rt, bk, ct, ex⟩ s m := h
theorem x_brk (h : bk s m) : sBrk ⟨nx, rt, bk, ct, ex⟩ s m := h
theorem x_cnt (h : ct s m) : sCnt ⟨nx, rt, bk, ct, ex⟩ s m := h
theorem x_exp (h : A s m (fun _ m1 => nx s m1) (ex s)) : sExp A ⟨nx, rt, bk, ct, ex⟩ s m := h
theorem x_ret (h : A s m rt (ex s)) : sRet A ⟨nx, rt, bk, ct, ex⟩ s m := h
theorem x_retN (h : rt .non m) : sRetN ⟨nx, rt, bk, ct, ex⟩ s m := h
theorem x_asg {g : TG3} (h : A s m (fun d m1 => g d s m1 nx) (ex s)) : sAsg A g ⟨nx, rt, bk, ct, ex⟩ s m := h
theorem x_par {R : TA3} (h : R s m (fun ds m1 => ∃ u v, ds = [u, v] ∧ nx ((s.set i (some u)).set j (some v)) m1) (ex s)) : sPar i j R ⟨nx, rt, bk, ct, ex⟩ s m := h
theorem x_par2 {Z : D → D → Prop} (h : Z u v) : ∃ u' v', [u, v] = [u', v'] ∧ Z u' v' := ⟨u, v, rfl, h⟩
theorem x_gnm {n : S3 → Mp → Prop} (h : n (s.set i (some d)) m) : gNm i d s m n := h
theorem x_if (h : c s m (fun b m1 => if b = true then t ⟨nx, rt, bk, ct, ex⟩ s m1 else t' ⟨nx, rt, bk, ct, ex⟩ s m1) (ex s)) : sIf c t t' ⟨nx, rt, bk, ct, ex⟩ s m := h
theorem x_aug {f : D → D → Mp → K3 → Prop} (h0 : s[i]? = some (some u)) (h : A s m (fun v m1 => f u v m1 (fun d m2 => nx (s.set i (some d)) m2)) (ex s)) : sAug i A f ⟨nx, rt, bk, ct, ex⟩ s m := ⟨u, h0, h⟩
theorem x_sub {O I V : TE3} (h : V s m (fun v m1 => O s m1 (fun o m2 => I s m2 (fun i m3 => fSet o i v m3 (nx s)) (ex s)) (ex s)) (ex s)) : sSub O I V ⟨nx, rt, bk, ct, ex⟩ s m := h
theorem xf_set {n : Int} {kk : Mp → Prop} (h1 : m p = some (.lst l)) (h2 : ixN l.length n = some j) (h : kk (mset m p (.lst (l.set j v)))) : fSet (.ref p) (.int n) v m kk := .inl ⟨p, l, n, j, rfl, rfl, h1, h2, h⟩
theorem xf_dset {kvs : List (Key × D)} {y : Key} {kk : Mp → Prop} (h1 : m p = some (.dK kvs)) (h2 : kvs.length < 100000) (h : kk (mset m p (.dK (putD kvs y v)))) : fSet (.ref p) (keyD y) v m kk := .inr ⟨p, kvs, y, rfl, rfl, h1, Nat.lt_of_lt_of_le h2 (by decide), h⟩
theorem xf_dsetI {kvs : List (Key × D)} {y : Int} {kk : Mp → Prop} (h1 : m p = some (.dK kvs)) (h2 : kvs.length < 100000) (h : kk (mset m p (.dK (putD kvs (.inl y) v)))) : fSet (.ref p) (.int y) v m kk := xf_dset (y := .inl y) h1 h2 h
theorem xf_dsetS {kvs : List (Key × D)} {y : Str} {kk : Mp → Prop} (h1 : m p = some (.dK kvs)) (h2 : kvs.length < 100000) (h : kk (mset m p (.dK (putD kvs (.inr y) v)))) : fSet (.ref p) (.str y) v m kk := xf_dset (y := .inr y) h1 h2 h
/-! expressions -/
theorem x_var (h0 : s[i]? = some (some d)) (h : k d m) : eVar i s m k x := ⟨d, h0, h⟩
theorem x_lit (h : k d m) : eLit d s m k x := h
theorem x_bin {f : D → D → Mp → K3 → Prop} (h : A s m (fun u m1 => B s m1 (fun v m2 => f u v m2 k) x) x) : eBin f A B s m k x := h
theorem x_neg (h : A s m (fun u m1 => ∃ i, u = .int i ∧ k (.int (-i)) m1) x) : eNeg A s m k x := h
theorem x_negI {n : Int} (h : k (.int (-n)) m) : ∃ i, D.int n = .int i ∧ k (.int (-i)) m := ⟨n, rfl, h⟩
theorem x_anil {ka : List D → Mp → Prop} (h : ka [] m) : aNil s m ka x := h
theorem x_acons {ka : List D → Mp → Prop} (h : A s m (fun d m1 => R s m1 (fun ds m2 => ka (d :: ds) m2) x) x) : aCons A R s m ka x := h
theorem x_tup (h : R s m (fun ds m1 => ds.length ≤ sizeLine ∧ k (.tup ds) m1) x) : eTup R s m k x := h
theorem x_lst (h : R s m (fun ds m1 => ds.length ≤ sizeLine ∧ ∀ p, m1 p = none → k (.ref p) (mset m1 p (.lst ds))) x) : eLst R s m k x := h
theorem x_dic (h : ∀ p, m p = none → k (.ref p) (mset m p (.dK []))) : eDic s m k x := h
theorem x_cb {f : List D → Mp → K3 → Prop} (h : R s m (fun ds m1 => f ds m1 k) x) : eCB f R s m k x := h
theorem x_ecall (h : R s m (fun ds m1 => callS T L i ds m1 k x) x) : eCall T L i R s m k x := h
theorem x_mt {n : String} {f : D → List D → Mp → K3 → Prop} (h : A s m (fun o m1 => tyD n o m1 ∧ R s m1 (fun ds m2 => f o ds m2 k) x) x) : eMt n f A R s m k x := h
theorem x_mt0 {n : String} {f : D → List D → Mp → K3 → Prop} (h : A s m (fun o m1 => tyD n o m1 ∧ f o [] m1 k) x) : eMt0 n f A s m k x := h
theorem x_tyL {Z : Prop} (h0 : RL m p l) (h : Z) : tyD "list" (.ref p) m ∧ Z := ⟨.inr (.inl ⟨rfl, p, l, rfl, h0⟩), h⟩
theorem x_tyS {Z : Prop} {z : Str} (h : Z) : tyD "str" (.str z) m ∧ Z := ⟨.inl ⟨rfl, z, rfl⟩, h⟩
theorem x_sz {ds : List D} {Z : Prop} (h0 : ds.length ≤ 100000) (h : Z) : ds.length ≤ sizeLine ∧ Z := ⟨Nat.le_trans h0 (by decide), h⟩
theorem x_and (h : A s m (fun d m1 => ∃ c, d = .bl c ∧ if c = true then B s m1 k x else k (.bl false) m1) x) : eAnd A B s m k x := h
theorem x_or (h : A s m (fun d m1 => ∃ c, d = .bl c ∧ if c = true then k (.bl true) m1 else B s m1 k x) x) : eOr A B s m k x := h
theorem x_not (h : A s m (fun d m1 => ∃ c, d = .bl c ∧ k (.bl (!c)) m1) x) : eNot A s m k x := h
theorem x_ife (h : c s m (fun b m1 => if b = true then A s m1 k x else B s m1 k x) x) : eIf c A B s m k x := h
theorem x_exb {b : Bool} {Z : Bool → Prop} (h : Z b) : ∃ c, D.bl b = .bl c ∧ Z c := ⟨b, rfl, h⟩
theorem x_chain {f g : Int → Int → Bool} (h : A s m (fun u m1 => B s m1 (fun v m2 => ∃ i j, u = .int i ∧ v = .int j ∧ if f i j = true then C s m2 (fun w m3 => ∃ l, w = .int l ∧ k (.bl (g j l)) m3) x else k (.bl false) m2) x) x) : eChain f g A B C s m k x := h
theorem x_ch1 {n o : Int} {Z : Int → Int → Prop} (h : Z n o) : ∃ i j, D.int n = .int i ∧ D.int o = .int j ∧ Z i j := ⟨n, o, rfl, rfl, h⟩
theorem x_ch2 {n : Int} {Z : Int → Prop} (h : Z n) : ∃ i, D.int n = .int i ∧ Z i := ⟨n, rfl, h⟩
/-! tests -/
theorem x_tbv (h : A s m (fun d m1 => ∃ b, d = .bl b ∧ kb b m1) x) : tBv A s m kb x := h
theorem x_ttru (h : A s m (fun d m1 => ∃ b, TruD m1 d b ∧ kb b m1) x) : tTru A s m kb x := h
theorem x_trB {b : Bool} {Z : Bool → Prop} (h : Z b) : ∃ c, TruD m (.bl b) c ∧ Z c := ⟨b, rfl, h⟩
theorem x_trI {n : Int} {Z : Bool → Prop} (h : Z (n != 0)) : ∃ c, TruD m (.int n) c ∧ Z c := ⟨_, rfl, h⟩
theorem x_trT {Z : Bool → Prop} (h : Z (!l.isEmpty)) : ∃ c, TruD m (.tup l) c ∧ Z c := ⟨_, rfl, h⟩
theorem x_trL (h0 : RL m p l) {Z : Bool → Prop} (h : Z (!l.isEmpty)) : ∃ c, TruD m (.ref p) c ∧ Z c := ⟨_, .inl ⟨l, h0, rfl⟩, h⟩
theorem x_tand (h : c s m (fun b m1 => if b = true then c' s m1 kb x else kb false m1) x) : tAnd3 c c' s m kb x := h
theorem x_tor (h : c s m (fun b m1 => if b = true then kb true m1 else c' s m1 kb x) x) : tOr3 c c' s m kb x := h
theorem x_tnot (h : c s m (fun b m1 => kb (!b) m1) x) : tNot3 c s m kb x := h
theorem x_yes (h : kb true m) : tYes3 s m kb x := h
theorem x_iT (h : P) : if true = true then P else Q := h
theorem x_itg {c : Prop} [Decidable c] (h : if c then P else Q) : if c then P else Q := h
theorem x_iF (h : Q) : if false = true then P else Q := h
theorem x_iD {Z : Prop} [Decidable Z] (h1 : Z → P) (h2 : ¬ Z → Q) : if decide Z = true then P else Q := by
  by_cases h : Z
  · rw [decide_eq_true h]; exact h1 h
  · rw [decide_eq_false h]; exact h2 h
theorem x_iN {Z : Prop} [Decidable Z] (h1 : ¬ Z → P) (h2 : Z → Q) : if (!decide Z) = true then P else Q := by
  by_cases h : Z
  · rw [decide_eq_true h]; exact h2 h
  · rw [decide_eq_false h]; exact h1 h
theorem x_iB {b : Bool} (h1 : b = true → P) (h2 : b = false → Q) : if b = true then P else Q := by
  cases b with
  | true => exact h1 rfl
  | false => exact h2 rfl
/-! operations -/
theorem xf_addI {n o : Int} (h : k (.int (n + o)) m) : fAdd (.int n) (.int o) m k := h
theorem xf_addS {n o : Str} (h0 : n.length + o.length ≤ sizeLine) (h : k (.str (n ++ o)) m) : fAdd (.str n) (.str o) m k := ⟨h0, h⟩
theorem xf_addT (h0 : l.length + r.length ≤ 100000) (h : k (.tup (l ++ r)) m) : fAdd (.tup l) (.tup r) m k := ⟨Nat.le_trans h0 (by decide), h⟩
theorem xf_addL (h1 : m p = some (.lst l)) (h2 : m q = some (.lst r)) (h0 : l.length + r.length ≤ 100000) (h : ∀ z, m z = none → k (.ref z) (mset m z (.lst (l ++ r)))) : fAdd (.ref p) (.ref q) m k := ⟨l, r, h1, h2, Nat.le_trans h0 (by decide), h⟩
theorem xf_I {Z : Int → Int → Prop} {g : Int → Int → D} {n o : Int} (h0 : Z n o) (h : k (g n o) m) : fI Z g (.int n) (.int o) m k := ⟨n, o, rfl, rfl, h0, h⟩
theorem xf_mulI {n o : Int} (h0 : CMulX n o) (h : k (.int (n * o)) m) : fMul (.int n) (.int o) m k := ⟨h0, h⟩
theorem xf_mulT {n : Int} (h1 : l ≠ []) (h2 : 2 ≤ n) (h3 : n ≤ 1000) (h4 : l.length ≤ 1000) (h : k (.tup (List.replicate n.toNat l).flatten) m) : fMul (.tup l) (.int n) m k := ⟨h1, h2, h3, h4, h⟩
theorem xf_ltI {n o : Int} (h : k (.bl (decide (n < o))) m) : fLt (.int n) (.int o) m k := h
theorem xf_ltS {n o : Str} (h : k (.bl (decide (n.cps.toList < o.cps.toList))) m) : fLt (.str n) (.str o) m k := h
theorem xf_is {neg b : Bool} (h0 : isD u v = some b) (h : k (inB neg b) m) : fIs neg u v m k := ⟨b, h0, h⟩
theorem xf_is0 {b : Bool} (h0 : isD u v = some b) (h : k (.bl b) m) : fIs false u v m k := ⟨b, h0, h⟩
theorem xf_is1 {b : Bool} (h0 : isD u v = some b) (h : k (.bl (!b)) m) : fIs true u v m k := ⟨b, h0, h⟩
theorem eqv_int {n o : Int} : PyData.eqv (.int n) (.int o) = decide (n = o) := by
  show (n == o) = decide (n = o)
  by_cases h : n = o
  · subst h; simp
  · simp [h]
theorem eqv_str {n o : Str} : PyData.eqv (.str n) (.str o) = decide (n = o) := by
  show (n == o) = decide (n = o)
  by_cases h : n = o
  · subst h; simp
  · simp [h]
theorem peq_l {d e : PyData} (h : d.depth ≤ 64) : PEq d e := Nat.le_trans (Nat.min_le_left _ _) h
theorem peq_r {d e : PyData} (h : e.depth ≤ 64) : PEq d e := Nat.le_trans (Nat.min_le_right _ _) h
theorem xf_eqI {n o : Int} (h : k (.bl (decide (n = o))) m) : fEq (.int n) (.int o) m k := ⟨_, _, .int n, .int o, peq_l (Nat.zero_le _), by rw [eqv_int]; exact h⟩
theorem xf_neI {n o : Int} (h : k (.bl (!decide (n = o))) m) : fNe (.int n) (.int o) m k := ⟨_, _, .int n, .int o, peq_l (Nat.zero_le _), by rw [eqv_int]; exact h⟩
theorem xf_eqS {n o : Str} (h : k (.bl (decide (n = o))) m) : fEq (.str n) (.str o) m k := ⟨_, _, .str n, .str o, peq_l (Nat.zero_le _), by rw [eqv_str]; exact h⟩
theorem xf_neS {n o : Str} (h : k (.bl (!decide (n = o))) m) : fNe (.str n) (.str o) m k := ⟨_, _, .str n, .str o, peq_l (Nat.zero_le _), by rw [eqv_str]; exact h⟩
theorem xf_eqB {n o : Bool} (h : k (.bl (n == o)) m) : fEq (.bl n) (.bl o) m k := ⟨_, _, .bl n, .bl o, peq_l (Nat.zero_le _), h⟩
theorem xf_ixL {n : Int} (h1 : RL m p l) (h2 : atI l n = some d) (h : k d m) : fIx (.ref p) (.int n) m k := .inl ⟨n, l, d, rfl, h1, h2, h⟩
theorem xf_dgetI {kvs : List (Key × D)} {n : Int} (h1 : m p = some (.dK kvs) ∨ m p = some (.rdK kvs)) (h2 : getD kvs (.inl n) = some d) (h : k d m) : fIx (.ref p) (.int n) m k := .inr ⟨d, ⟨kvs, .inl n, h1, rfl, h2.symm⟩, h⟩
theorem xf_dgetS {kvs : List (Key × D)} {n : Str} (h1 : m p = some (.dK kvs) ∨ m p = some (.rdK kvs)) (h2 : getD kvs (.inr n) = some d) (h : k d m) : fIx (.ref p) (.str n) m k := .inr ⟨d, ⟨kvs, .inr n, h1, rfl, h2.symm⟩, h⟩
theorem xf_dinI {kvs : List (Key × D)} {n : Int} {neg : Bool} (h1 : m p = some (.dK kvs) ∨ m p = some (.rdK kvs)) (h : k (inB neg (getD kvs (.inl n)).isSome) m) : fIn neg (.int n) (.ref p) m k := .inr (.inr ⟨p, _, rfl, ⟨kvs, .inl n, h1, rfl, rfl⟩, h⟩)
theorem xf_dinS {kvs : List (Key × D)} {n : Str} {neg : Bool} (h1 : m p = some (.dK kvs) ∨ m p = some (.rdK kvs)) (h : k (inB neg (getD kvs (.inr n)).isSome) m) : fIn neg (.str n) (.ref p) m k := .inr (.inr ⟨p, _, rfl, ⟨kvs, .inr n, h1, rfl, rfl⟩, h⟩)
theorem xf_ixT {n : Int} (h2 : atI l n = some d) (h : k d m) : fIx (.tup l) (.int n) m k := ⟨d, h2, h⟩
theorem xf_ixS {n : Int} {z : Str} {cc : Nat} (h0 : z.length ≤ sizeLine) (h2 : atI z.cps.toList n = some cc) (h : k (.str ⟨#[cc]⟩) m) : fIx (.str z) (.int n) m k := ⟨h0, cc, h2, h⟩
theorem x_sl {U V : TO3} (h : A s m (fun d m1 => U s m1 (fun lo m2 => V s m2 (fun hi m3 => fSl d lo hi m3 k) x) x) x) : eSl A U V s m k x := h
theorem x_on {ko : Option Int → Mp → Prop} (h : ko none m) : oNone s m ko x := h
theorem x_os {ko : Option Int → Mp → Prop} (h : A s m (fun d m1 => ∃ i, d = .int i ∧ ko (some i) m1) x) : oSome A s m ko x := h
theorem xf_slT {lo hi : Option Int} (h : k (.tup (cutD l lo hi)) m) : fSl (.tup l) lo hi m k := h
theorem xf_slS {lo hi : Option Int} {z : Str} (h0 : z.length ≤ sizeLine) (h : k (.str (cutS z lo hi)) m) : fSl (.str z) lo hi m k := ⟨h0, h⟩
theorem xf_slL {lo hi : Option Int} (h1 : RL m p l) (h : ∀ z, m z = none → k (.ref z) (mset m z (.lst (cutD l lo hi)))) : fSl (.ref p) lo hi m k := ⟨l, h1, h⟩
theorem xf_lenT (h : k (.int l.length) m) : fLen [.tup l] m k := h
theorem xf_lenL (h1 : RL m p l) (h : k (.int l.length) m) : fLen [.ref p] m k := .inl ⟨l, h1, h⟩
theorem xf_lenD {kvs : List (Key × D)} (h1 : m p = some (.dK kvs) ∨ m p = some (.rdK kvs)) (h : k (.int kvs.length) m) : fLen [.ref p] m k := .inr ⟨kvs, h1, h⟩
theorem xf_lenS {z : Str} (h0 : z.length ≤ sizeLine) (h : k (.int z.length) m) : fLen [.str z] m k := ⟨h0, h⟩
theorem xf_ord {cc : Nat} (h : k (.int cc) m) : fOrd [.str ⟨#[cc]⟩] m k := ⟨⟨#[cc]⟩, rfl, rfl, h⟩
theorem xf_abs {n : Int} (h : k (.int (if n < 0 then -n else n)) m) : fAbs [.int n] m k := ⟨n, rfl, h⟩
theorem xf_max2 {n o : Int} (h : k (.int (if o > n then o else n)) m) : fMax2 [.int n, .int o] m k := ⟨n, o, rfl, h⟩
theorem xf_min2 {n o : Int} (h : k (.int (if o < n then o else n)) m) : fMin2 [.int n, .int o] m k := ⟨n, o, rfl, h⟩
theorem xf_intI {n : Int} (h : k (.int n) m) : fInt [.int n] m k := .inl ⟨n, rfl, h⟩
theorem xf_intB {b : Bool} (h : k (.int (if b then 1 else 0)) m) : fInt [.bl b] m k := .inr (.inl ⟨b, rfl, h⟩)
theorem xf_intS {z : Str} {n : Int} (h1 : PySem.intText? z = some n) (h0 : z.length ≤ 640) (h : k (.int n) m) : fInt [.str z] m k := .inr (.inr ⟨z, n, rfl, h1, h0, h⟩)
theorem xf_str {n : Int} (h0 : n.natAbs.log2 < 1920) (h : k (.str (toString n)) m) : fStr [.int n] m k := .inl ⟨n, rfl, h0, h⟩
theorem xf_strB {b : Bool} (h : k (.str (if b then "True" else "False")) m) : fStr [.bl b] m k := .inr ⟨b, rfl, h⟩
theorem xf_tupL (h1 : RL m p l) (h : k (.tup l) m) : fTuple [.ref p] m k := .inl ⟨p, l, rfl, h1, h⟩
theorem xf_tupT (h : k (.tup l) m) : fTuple [.tup l] m k := .inr ⟨l, rfl, h⟩
theorem xf_lstT (h : ∀ z, m z = none → k (.ref z) (mset m z (.lst l))) : fList [.tup l] m k := ⟨l, .inr rfl, h⟩
theorem xf_lstL (h1 : RL m p l) (h : ∀ z, m z = none → k (.ref z) (mset m z (.lst l))) : fList [.ref p] m k := ⟨l, .inl ⟨p, rfl, h1⟩, h⟩
theorem xf_divmod {n o : Int} (h0 : CDivW n o) (h : k (.tup [.int (n / o), .int (n % o)]) m) : fDivmod [.int n, .int o] m k := ⟨n, o, rfl, h0, h⟩
theorem xf_app (h1 : m p = some (.lst l)) (h0 : l.length < 100000) (h : k .non (mset m p (.lst (l ++ [d])))) : fAppend (.ref p) [d] m k := ⟨p, l, d, rfl, rfl, h1, Nat.lt_of_lt_of_le h0 (by decide), h⟩
theorem xf_ext (h1 : m p = some (.lst l)) (h2 : m q = some (.lst r)) (h0 : l.length + r.length ≤ 100000) (h : k .non (mset m p (.lst (l ++ r)))) : fExtend (.ref p) [.ref q] m k := ⟨p, q, l, r, rfl, rfl, h1, h2, Nat.le_trans h0 (by decide), h⟩
/-! isinstance -/
theorem xf_isi {n o : String} {b : Bool} (h1 : TyD m d n) (h2 : kitB n o = some b) (h : k (.bl b) m) : fIsi [d, .ty o] m k := ⟨d, o, n, b, rfl, h1, h2, h⟩
def kitT : List (String × String × Bool) := [("NoneType", "int", false), ("NoneType", "str", false), ("NoneType", "tuple", false), ("NoneType", "bool", false), ("bool", "int", true), ("bool", "str", false), ("bool", "tuple", false), ("bool", "bool", true),
  ("int", "int", true), ("int", "str", false), ("int", "tuple", false), ("int", "bool", false), ("str", "int", false), ("str", "str", true), ("str", "tuple", false), ("str", "bool", false),
  ("tuple", "int", false), ("tuple", "str", false), ("tuple", "tuple", true), ("tuple", "bool", false), ("list", "int", false), ("list", "str", false), ("list", "tuple", false), ("list", "bool", false), ("list", "list", true), ("tuple", "list", false),
  ("dict", "int", false), ("dict", "str", false), ("dict", "tuple", false), ("dict", "bool", false), ("dict", "list", false), ("dict", "dict", true), ("list", "dict", false), ("NoneType", "list", false), ("bool", "list", false), ("int", "list", false), ("str", "list", false)]
theorem kit_all : kitT.all (fun p => kitB p.1 p.2.1 == some p.2.2) = true := by decide +kernel
theorem kit_of' {n o : String} {b : Bool} (h : (n, o, b) ∈ kitT) : kitB n o = some b := by
  have := List.all_eq_true.mp kit_all _ h
  simpa using this
theorem kit_t {n o : String} (h : (n, o, true) ∈ kitT) : kitB n o = some true := kit_of' h
theorem kit_f {n o : String} (h : (n, o, false) ∈ kitT) : kitB n o = some false := kit_of' h
theorem xf_isiT {m : Mp} {k : K3} {d : D} {n o : String} (h1 : TyD m d n) (h2 : (n, o, true) ∈ kitT) (h : k (.bl true) m) : fIsi [d, .ty o] m k := ⟨d, o, n, true, rfl, h1, kit_t h2, h⟩
theorem xf_isiF {m : Mp} {k : K3} {d : D} {n o : String} (h1 : TyD m d n) (h2 : (n, o, false) ∈ kitT) (h : k (.bl false) m) : fIsi [d, .ty o] m k := ⟨d, o, n, false, rfl, h1, kit_f h2, h⟩
theorem x_gtp {n : Nat} {gs : TGs3} {kk : S3 → Mp → Prop} (h0 : l.length = n) (h : gs l s m kk) : gTp n gs (.tup l) s m kk := ⟨l, rfl, h0, h⟩
theorem x_gls {n : Nat} {gs : TGs3} {kk : S3 → Mp → Prop} (h0 : RL m p l) (h1 : l.length = n) (h : gs l s m kk) : gLs n gs (.ref p) s m kk := ⟨p, l, rfl, h0, h1, h⟩
theorem x_gs1 {g : TG3} {gs : TGs3} {kk : S3 → Mp → Prop} (h : g d s m (fun s' m' => gs l s' m' kk)) : gs1 g gs (d :: l) s m kk := ⟨d, l, rfl, h⟩
theorem x_gs0 {kk : S3 → Mp → Prop} (h : kk s m) : gs0 [] s m kk := ⟨rfl, h⟩
/-! what is walked -/
theorem x_for {it : TI3} {g : TG3} (h : it s m (fun l R m1 => ∃ P : Nat → S3 → Mp → Prop, P 0 s m1 ∧ (∀ i s m, i ≤ l.length → P i s m → R m) ∧
  (∀ i d s m, l[i]? = some d → P i s m → g d s m (fun s2 m2 => t ⟨P (i + 1), rt, nx, P (i + 1), ex⟩ s2 m2)) ∧ ∀ s m, P l.length s m → nx s m) (ex s)) : sFor it g t ⟨nx, rt, bk, ct, ex⟩ s m := h
theorem x_isq {ki : List D → (Mp → Prop) → Mp → Prop} (h : A s m (fun d m1 => itD d m1 ki) x) : iSq A s m ki x := h
theorem x_itL {ki : List D → (Mp → Prop) → Mp → Prop} (h1 : RL m p l) (h : ki l (fun m' => RL m' p l) m) : itD (.ref p) m ki := .inl ⟨l, h1, h⟩
theorem x_itD {kvs : List (Key × D)} {ki : List D → (Mp → Prop) → Mp → Prop} (h1 : m p = some (.rdK kvs)) (h : ki (kvs.map fun e => keyD e.1) (fun m' => m' p = some (.rdK kvs)) m) : itD (.ref p) m ki := .inr ⟨kvs, h1, h⟩
theorem x_itT {ki : List D → (Mp → Prop) → Mp → Prop} (h : ki l (fun _ => True) m) : itD (.tup l) m ki := h
theorem x_itS {z : Str} {ki : List D → (Mp → Prop) → Mp → Prop} (h : ki (signs z) (fun _ => True) m) : itD (.str z) m ki := h
theorem x_ir1 {ki : List D → (Mp → Prop) → Mp → Prop} (h : R s m (fun ds m1 => ∃ j : Int, ds = [.int j] ∧ B62 j ∧ ki (rngD 0 1 j.toNat) (fun _ => True) m1) x) : iR1 R s m ki x := h
theorem x_ir1' {n : Int} {Z : Int → Prop} (h0 : B62 n) (h : Z n) : ∃ j : Int, [D.int n] = [.int j] ∧ B62 j ∧ Z j := ⟨n, rfl, h0, h⟩
theorem x_ir3 {ki : List D → (Mp → Prop) → Mp → Prop} (h : R s m (fun ds m1 => ∃ (i j c : Int) (n : Nat), ds = [.int i, .int j, .int c] ∧ RgC i j c n ∧ ki (rngD i c n) (fun _ => True) m1) x) : iR3 R s m ki x := h
theorem x_izp {ki : List D → (Mp → Prop) → Mp → Prop} (h : R s m (fun ds m1 => (∃ q q' l r, ds = [.ref q, .ref q'] ∧ RL m1 q l ∧ RL m1 q' r ∧ ki (zipD l r) (fun m => RL m q l ∧ RL m q' r) m1) ∨ ∃ l r, ds = [.tup l, .tup r] ∧ ki (zipD l r) (fun _ => True) m1) x) : iZp R s m ki x := h
theorem x_izT {ki : List D → (Mp → Prop) → Mp → Prop} (h : ki (zipD l r) (fun _ => True) m) : (∃ q q' l' r', [D.tup l, D.tup r] = [.ref q, .ref q'] ∧ RL m q l' ∧ RL m q' r' ∧ ki (zipD l' r') (fun m => RL m q l' ∧ RL m q' r') m) ∨ ∃ l' r', [D.tup l, D.tup r] = [.tup l', .tup r'] ∧ ki (zipD l' r') (fun _ => True) m := .inr ⟨l, r, rfl, h⟩
end
theorem x_lc {it : TI3} {i : Nat} {t : TT3} {B : TE3} {s : S3} {m : Mp} {k : K3} {x : X3} (h : it s m (fun l R m1 => ∀ q, m1 q = none → ∃ P : Nat → Mp → Prop, P 0 (mset m1 q (.lst [])) ∧ (∀ j m, j ≤ l.length → P j m → R m) ∧
  (∀ j d m, l[j]? = some d → P j m → t (s.set i (some d)) m (fun b m3 => if b = true then B (s.set i (some d)) m3 (fun y m4 => ∃ acc, m4 q = some (.lst acc) ∧ acc.length < sizeLine ∧ P (j + 1) (mset m4 q (.lst (acc ++ [y])))) noX else P (j + 1) m3) noX) ∧
  ∀ m, P l.length m → k (.ref q) m) x) : eLc it i t B s m k x := h
/-- a comprehension: from what stands ahead of element j to what stands ahead of j + 1 -/
theorem lc3 {l : List D} {Rm : Mp → Prop} {t : TT3} {B : TE3} {s : S3} {m : Mp} {i : Nat} {q : Addr} {k : K3} (P : Nat → Mp → Prop) (h0 : P 0 (mset m q (.lst []))) (hR : ∀ j m, j ≤ l.length → P j m → Rm m)
    (hs : ∀ j d m, l[j]? = some d → P j m → t (s.set i (some d)) m (fun b m3 => if b = true then B (s.set i (some d)) m3 (fun y m4 => ∃ acc, m4 q = some (.lst acc) ∧ acc.length < sizeLine ∧ P (j + 1) (mset m4 q (.lst (acc ++ [y])))) noX else P (j + 1) m3) noX)
    (hd : ∀ m, P l.length m → k (.ref q) m) : ∃ P : Nat → Mp → Prop, P 0 (mset m q (.lst [])) ∧ (∀ j m, j ≤ l.length → P j m → Rm m) ∧
  (∀ j d m, l[j]? = some d → P j m → t (s.set i (some d)) m (fun b m3 => if b = true then B (s.set i (some d)) m3 (fun y m4 => ∃ acc, m4 q = some (.lst acc) ∧ acc.length < sizeLine ∧ P (j + 1) (mset m4 q (.lst (acc ++ [y])))) noX else P (j + 1) m3) noX) ∧
  ∀ m, P l.length m → k (.ref q) m := ⟨P, h0, hR, hs, hd⟩
theorem signs_get {z : Str} {i : Nat} {d : D} (h : (signs z)[i]? = some d) : ∃ c, z.cps.toList[i]? = some c ∧ d = .str ⟨#[c]⟩ := by
  unfold signs at h
  rw [List.getElem?_map] at h
  cases e : z.cps.toList[i]? with
  | none => rw [e] at h; cases h
  | some c => rw [e] at h; exact ⟨c, rfl, (Option.some.inj h).symm⟩
theorem signs_length {z : Str} : (signs z).length = z.cps.toList.length := by simp [signs]
theorem x_whl {t : TT3} {u : TS3} {nx bk ct : S3 → Mp → Prop} {rt : K3} {ex : S3 → X3} {s : S3} {m : Mp} (P : Nat → S3 → Mp → Prop) (n : Nat) (h0 : P n s m)
    (h : ∀ n s m, P n s m → t s m (fun b m1 => if b = true then u ⟨fun s' m' => ∃ n', n' < n ∧ P n' s' m', rt, nx, fun s' m' => ∃ n', n' < n ∧ P n' s' m', ex⟩ s m1 else nx s m1) (ex s)) : sWhl t u ⟨nx, rt, bk, ct, ex⟩ s m := ⟨P, ⟨n, h0⟩, h⟩
/-- a for: from what stands at turn i to what stands at turn i + 1 -/
theorem for3 {l : List D} {Rm : Mp → Prop} {g : TG3} {t : TS3} {nx : S3 → Mp → Prop} {rt : K3} {ex : S3 → X3} {s : S3} {m : Mp} (P : Nat → S3 → Mp → Prop) (h0 : P 0 s m) (hR : ∀ i s m, i ≤ l.length → P i s m → Rm m)
    (hs : ∀ i d s m, l[i]? = some d → P i s m → g d s m (fun s2 m2 => t ⟨P (i + 1), rt, nx, P (i + 1), ex⟩ s2 m2)) (hd : ∀ s m, P l.length s m → nx s m) :
    ∃ P : Nat → S3 → Mp → Prop, P 0 s m ∧ (∀ i s m, i ≤ l.length → P i s m → Rm m) ∧ (∀ i d s m, l[i]? = some d → P i s m → g d s m (fun s2 m2 => t ⟨P (i + 1), rt, nx, P (i + 1), ex⟩ s2 m2)) ∧ ∀ s m, P l.length s m → nx s m := ⟨P, h0, hR, hs, hd⟩
end PV

/-! Frames; draws; what things look like as data. -/
namespace PV
open PySem L2 PyProof.Rows
theorem cdivw {i j : Int} (h0 : 0 < j) (h1 : j < 2 ^ 1000) : CDivW i j := wide_div h0 (show j.natAbs < 2 ^ 1000 by omega) (by decide) (by decide)
theorem cmulw {i j : Int} (h0 : -(2 ^ 400) < i ∧ i < 2 ^ 400) (h1 : -(2 ^ 400) < j ∧ j < 2 ^ 400) : CMulX i j := Nat.lt_trans (wide_mul (i := i) (j := j) (a := 400) (b := 400) (by omega) (by omega) (by decide) (by decide) (by decide)) (by decide)
theorem ne_none' {m : Mp} {a b : Addr} {o : O} (h : m b = none) (h' : m a = some o) : a ≠ b := ne_none h' h
def Fr (ps : List Addr) (m m' : Mp) : Prop := m'.kl = m.kl ∧ ∀ a o, a ∉ ps → m a = some o → m' a = some o
theorem Fr.refl (ps : List Addr) (m : Mp) : Fr ps m m := ⟨rfl, fun _ _ _ h => h⟩
theorem Fr.at {ps : List Addr} {m m' : Mp} {a : Addr} {o : O} (h : Fr ps m m') (n : a ∉ ps) (e : m a = some o) : m' a = some o := h.2 a o n e
theorem Fr.new {ps : List Addr} {m m' : Mp} {z : Addr} {o : O} (h : Fr ps m m') (hz : m' z = none) : Fr ps m (mset m' z o) := ⟨h.1, fun a u n e => by
  rw [mset_ne (ne_none (h.2 a u n e) hz)]
  exact h.2 a u n e⟩
theorem Fr.gone {ps : List Addr} {m m' : Mp} {z : Addr} (h : Fr ps m m') (hz : m' z = none) : z ∈ ps ∨ m z = none := by
  by_cases hp : z ∈ ps
  · exact .inl hp
  · refine .inr ?_
    cases e : m z with
    | none => rfl
    | some o => rw [h.2 z o hp e] at hz; cases hz
theorem Fr.set {ps : List Addr} {m m' : Mp} {p : Addr} {o : O} (h : Fr ps m m') (hp : p ∈ ps ∨ m p = none) : Fr ps m (mset m' p o) := ⟨h.1, fun a u n e => by
  have : a ≠ p := by
    rintro rfl
    rcases hp with hp | hp
    · exact n hp
    · rw [e] at hp; cases hp
  rw [mset_ne this]
  exact h.2 a u n e⟩
def Ins (qs ps : List Addr) (m : Mp) : Prop := ∀ a ∈ qs, a ∈ ps ∨ m a = none
theorem Ins.nil {ps : List Addr} {m : Mp} : Ins [] ps m := fun _ h => by cases h
theorem Ins.cons {ps qs : List Addr} {m : Mp} {a : Addr} (h : a ∈ ps ∨ m a = none) (h' : Ins qs ps m) : Ins (a :: qs) ps m := fun b hb => by
  rcases List.mem_cons.mp hb with rfl | hb
  · exact h
  · exact h' b hb
theorem Fr.sub {ps qs : List Addr} {m m' m'' : Mp} (h' : Fr qs m' m'') (hs : Ins qs ps m) (h : Fr ps m m') : Fr ps m m'' := ⟨h'.1.trans h.1, fun a o n e => by
  refine h'.2 a o (fun hq => ?_) (h.2 a o n e)
  rcases hs a hq with z | z
  · exact n z
  · rw [e] at z; cases z⟩
theorem ni_nil {a : Addr} : a ∉ ([] : List Addr) := fun h => by cases h
theorem ni_cons {a b : Addr} {l : List Addr} (h : a ≠ b) (h' : a ∉ l) : a ∉ b :: l := fun z => by
  rcases List.mem_cons.mp z with z | z
  · exact h z
  · exact h' z
theorem in_h {a : Addr} {l : List Addr} : a ∈ a :: l := List.mem_cons_self ..
theorem in_t {a b : Addr} {l : List Addr} (h : a ∈ l) : a ∈ b :: l := List.mem_cons_of_mem _ h
theorem xf_pow6 {m : Mp} {k : K3} (h : k (.int 1000000) m) : fPow (.int 10) (.int 6) m k := ⟨10, 6, rfl, rfl, by unfold CPow; decide, h⟩
theorem xf_pow15 {m : Mp} {k : K3} (h : k (.int 1000000000000000) m) : fPow (.int 10) (.int 15) m k := ⟨10, 15, rfl, rfl, by unfold CPow; decide, h⟩
theorem xf_pow30 {m : Mp} {k : K3} (h : k (.int 1000000000000000000000000000000) m) : fPow (.int 10) (.int 30) m k := ⟨10, 30, rfl, rfl, by unfold CPow; decide, h⟩
theorem RL.new {m : Mp} {p z : Addr} {l : List D} {o : O} (h : RL m p l) (hz : m z = none) : RL (mset m z o) p l := h.le ((Le.refl m).new hz)
/-- the script: read alone, and nothing of ours can be it -/
def Scr (m : Mp) (p : Addr) (l : List D) : Prop := m p = some (.rol l) ∨ m.kl p = some l
theorem Scr.rl {m : Mp} {p : Addr} {l : List D} (h : Scr m p l) : RL m p l := .inr h
theorem Scr.new {m : Mp} {p z : Addr} {l : List D} {o : O} (h : Scr m p l) (hz : m z = none) : Scr (mset m z o) p l := by
  rcases h with h | h
  · refine .inl ?_
    rw [mset_ne (ne_none h hz)]; exact h
  · exact .inr h
theorem Scr.fr {m m' : Mp} {p : Addr} {l : List D} (h : Scr m p l) (f : Fr [] m m') : Scr m' p l := by
  rcases h with h | h
  · exact .inl (f.at ni_nil h)
  · exact .inr (f.1 ▸ h)
/-! draws -/
def RowOk (row : List D) : Prop := ∃ x w : Int, row = [.int x, .int w] ∧ (w = 0 ∨ (0 ≤ x ∧ x < 536870909))
theorem fx_M {m : Mp} {k : K3} {p : Addr} {l : List D} {n : Int} (h1 : RL m p l) (h2 : 0 ≤ n) (h3 : n < l.length) (h : ∀ d, d ∈ l → atI l n = some d → k d m) : fIx (.ref p) (.int n) m k := by
  have hj : n.toNat < l.length := by omega
  have e : atI l n = some l[n.toNat] := by
    unfold atI ixN
    rw [if_pos h2, if_pos h3]
    exact List.getElem?_eq_getElem hj
  exact .inl ⟨n, l, _, rfl, h1, e, h _ (List.getElem_mem hj) e⟩
theorem atI_nat {α : Type} {l : List α} {n : Int} (h2 : 0 ≤ n) (h3 : n < l.length) : ∃ (hj : n.toNat < l.length), atI l n = some l[n.toNat] := by
  have hj : n.toNat < l.length := by omega
  refine ⟨hj, ?_⟩
  unfold atI ixN
  rw [if_pos h2, if_pos h3]
  exact List.getElem?_eq_getElem hj
/-! things -/
mutual
def D.sz : D → Nat
  | .tup l => 1 + D.szs l
  | .non => 1 | .bl _ => 1 | .int _ => 1 | .str _ => 1 | .ref _ => 1 | .ty _ => 1
def D.szs : List D → Nat
  | [] => 0
  | d :: l => D.sz d + D.szs l
end
theorem szs_app {l r : List D} : D.szs (l ++ r) = D.szs l + D.szs r := by
  induction l with
  | nil => simp [D.szs]
  | cons d l ih => simp [D.szs, ih]; omega
theorem szs_take {l : List D} {n : Nat} : D.szs (l.take n) ≤ D.szs l := by
  have := szs_app (l := l.take n) (r := l.drop n)
  rw [List.take_append_drop] at this
  omega
theorem szs_mem {l : List D} {d : D} (h : d ∈ l) : D.sz d ≤ D.szs l := by
  induction l with
  | nil => cases h
  | cons e l ih =>
    rcases List.mem_cons.mp h with rfl | h
    · simp [D.szs]
    · have := ih h; simp [D.szs]; omega
theorem szs_rep {n : Nat} {d : D} : D.szs (List.replicate n d) = n * D.sz d := by
  induction n with
  | zero => simp [D.szs]
  | succ n ih => rw [List.replicate_succ]; simp [D.szs, ih]; rw [Nat.succ_mul]; omega
/-- one of the 94 signs -/
def SgOk (c : Nat) : Prop := 32 ≤ c ∧ c ≤ 126 ∧ c ≠ 37
def big30 : Int := 1000000000000000000000000000000
def NumOk (i : Int) : Prop := -1000000000000000000000000000000 ≤ i ∧ i ≤ 1000000000000000000000000000000
def TxtOk (z : Str) : Prop := z.cps.toList.length ≤ 60 ∧ ∀ c ∈ z.cps.toList, SgOk c
def Fine : Nat → D → Prop
  | _, .non => True
  | _, .int i => NumOk i
  | _, .str z => TxtOk z
  | n + 1, .tup l => l.length ≤ 40 ∧ ∀ d ∈ l, Fine n d
  | _, _ => False
theorem Fine.non {n : Nat} : Fine n .non := by cases n <;> trivial
theorem Fine.int {n : Nat} {i : Int} (h : NumOk i) : Fine n (.int i) := by cases n <;> exact h
theorem Fine.str {n : Nat} {z : Str} (h : TxtOk z) : Fine n (.str z) := by cases n <;> exact h
theorem Fine.tup {n : Nat} {l : List D} (h : l.length ≤ 40) (h' : ∀ d ∈ l, Fine n d) : Fine (n + 1) (.tup l) := ⟨h, h'⟩
theorem Fine.num {n : Nat} {i : Int} (h : Fine n (.int i)) : NumOk i := by cases n <;> exact h
theorem Fine.txt {n : Nat} {z : Str} (h : Fine n (.str z)) : TxtOk z := by cases n <;> exact h
theorem Fine.parts {n : Nat} {l : List D} (h : Fine n (.tup l)) : ∃ k, n = k + 1 ∧ l.length ≤ 40 ∧ ∀ d ∈ l, Fine k d := by
  cases n with
  | zero => cases h
  | succ k => exact ⟨k, rfl, h.1, h.2⟩
theorem Fine.up {n : Nat} : ∀ {d : D}, Fine n d → Fine (n + 1) d := by
  induction n with
  | zero => intro d h; cases d with
    | tup l => exact h.elim
    | _ => exact h
  | succ n ih => intro d h; cases d with
    | tup l => exact ⟨h.1, fun e he => ih (h.2 e he)⟩
    | _ => exact h
theorem Fine.le {n k : Nat} {d : D} (h : Fine n d) (e : n ≤ k) : Fine k d := by
  induction e with
  | refl => exact h
  | step _ ih => exact ih.up
/-- what a fine one is -/
theorem Fine.cases {n : Nat} {d : D} (h : Fine n d) : d = .non ∨ (∃ i, d = .int i ∧ NumOk i) ∨ (∃ z, d = .str z ∧ TxtOk z) ∨ ∃ l k, d = .tup l ∧ n = k + 1 ∧ l.length ≤ 40 ∧ ∀ e ∈ l, Fine k e := by
  cases d with
  | non => exact .inl rfl
  | int i => exact .inr (.inl ⟨i, rfl, h.num⟩)
  | str z => exact .inr (.inr (.inl ⟨z, rfl, h.txt⟩))
  | tup l => obtain ⟨k, a, b, c⟩ := h.parts; exact .inr (.inr (.inr ⟨l, k, rfl, a, b, c⟩))
  | _ => cases n <;> cases h
theorem str_len {z : Str} : z.length = z.cps.toList.length := by show z.cps.size = _; simp
theorem str_app {z y : Str} : (z ++ y).cps.toList = z.cps.toList ++ y.cps.toList := by
  show (z.cps ++ y.cps).toList = _
  simp
theorem fx_S {m : Mp} {k : K3} {z : Str} {n : Int} (h0 : z.cps.toList.length ≤ 100000) (h2 : 0 ≤ n) (h3 : n < z.cps.toList.length) (h : ∀ c, c ∈ z.cps.toList → atI z.cps.toList n = some c → k (.str ⟨#[c]⟩) m) : fIx (.str z) (.int n) m k := by
  obtain ⟨hj, e⟩ := atI_nat h2 h3
  exact ⟨by rw [str_len]; exact Nat.le_trans h0 (by decide), _, e, h _ (List.getElem_mem hj) e⟩
theorem xf_addS' {n o : Str} {m : Mp} {k : K3} (h0 : n.cps.toList.length + o.cps.toList.length ≤ 100000) (h : k (.str (n ++ o)) m) : fAdd (.str n) (.str o) m k := ⟨by rw [str_len, str_len]; exact Nat.le_trans h0 (by decide), h⟩
theorem pow10_le {i n : Nat} (h : i ≤ n) : (10:Int) ^ i ≤ 10 ^ n := by exact_mod_cast Nat.pow_le_pow_right (by decide) h
theorem pow10_pos {i : Nat} : (0:Int) < 10 ^ i := by exact_mod_cast Nat.pow_pos (by decide)
end PV

/-! Things as data: equality, order. -/
namespace PV
open PySem L2 PyProof.Rows
mutual
def toP : D → PyData
  | .non => .none | .bl b => .bool b | .int i => .int i | .str z => .str z | .tup l => .tuple (toPs l) | .ref _ => .none | .ty _ => .none
def toPs : List D → List PyData
  | [] => []
  | d :: l => toP d :: toPs l
end
theorem DPs.of {m : Mp} : ∀ {l : List D}, (∀ d ∈ l, DP m d (toP d)) → DPs m l (toPs l)
  | [], _ => .nil
  | d :: l, h => .cons (h d (List.mem_cons_self ..)) (DPs.of fun e he => h e (List.mem_cons_of_mem _ he))
theorem Fine.dp {m : Mp} : ∀ {n : Nat} {d : D}, Fine n d → DP m d (toP d) := by
  intro n
  induction n with
  | zero => intro d h; cases d with
    | non => exact .non
    | int i => exact .int i
    | str z => exact .str z
    | _ => cases h
  | succ n ih => intro d h; cases d with
    | non => exact .non
    | int i => exact .int i
    | str z => exact .str z
    | tup l => exact .tup (DPs.of fun e he => ih (h.2 e he))
    | _ => cases h
theorem depthAll_of {n : Nat} : ∀ {l : List D}, (∀ d ∈ l, (toP d).depth ≤ n) → PyData.depthAll (toPs l) ≤ n
  | [], _ => Nat.zero_le _
  | d :: l, h => by
    have h1 := h d (List.mem_cons_self ..)
    have h2 := depthAll_of fun e he => h e (List.mem_cons_of_mem _ he)
    show max (toP d).depth (PyData.depthAll (toPs l)) ≤ n
    omega
theorem Fine.depth : ∀ {n : Nat} {d : D}, Fine n d → (toP d).depth ≤ n := by
  intro n
  induction n with
  | zero => intro d h; cases d with
    | tup l => cases h
    | _ => exact Nat.zero_le _
  | succ n ih => intro d h; cases d with
    | tup l =>
      have := depthAll_of fun e he => ih (h.2 e he)
      show PyData.depthAll (toPs l) + 1 ≤ n + 1
      omega
    | _ => exact Nat.zero_le _
theorem eqvAll_of {n : Nat} (ih : ∀ {a b : D}, Fine n a → Fine n b → (PyData.eqv (toP a) (toP b) = true ↔ a = b)) : ∀ {l r : List D}, (∀ d ∈ l, Fine n d) → (∀ d ∈ r, Fine n d) → (PyData.eqvAll (toPs l) (toPs r) = true ↔ l = r)
  | [], [], _, _ => by simp [toPs, PyData.eqvAll]
  | [], _ :: _, _, _ => by simp [toPs, PyData.eqvAll]
  | _ :: _, [], _, _ => by simp [toPs, PyData.eqvAll]
  | a :: l, b :: r, h, h' => by
    have h1 := ih (h a (List.mem_cons_self ..)) (h' b (List.mem_cons_self ..))
    have h2 := eqvAll_of ih (fun e he => h e (List.mem_cons_of_mem _ he)) (fun e he => h' e (List.mem_cons_of_mem _ he))
    simp only [toPs, PyData.eqvAll, Bool.and_eq_true, h1, h2, List.cons.injEq]
theorem eqv_iff : ∀ {n : Nat} {a b : D}, Fine n a → Fine n b → (PyData.eqv (toP a) (toP b) = true ↔ a = b) := by
  intro n
  induction n with
  | zero => intro a b h h'; cases a <;> cases b <;> first | exact (show False from h).elim | exact (show False from h').elim | (simp [toP, PyData.eqv])
  | succ n ih => intro a b h h'; cases a <;> cases b <;> first | exact (show False from h).elim | exact (show False from h').elim | skip
                 all_goals first | (simp [toP, PyData.eqv]; done) | skip
                 rename_i l r
                 simp only [toP, PyData.eqv, D.tup.injEq]
                 exact eqvAll_of ih h.2 h'.2
open Classical in
theorem eqv_fine {n k : Nat} {a b : D} (h : Fine n a) (h' : Fine k b) : PyData.eqv (toP a) (toP b) = decide (a = b) := by
  have := eqv_iff (h.le (Nat.le_max_left n k)) (h'.le (Nat.le_max_right n k))
  by_cases e : a = b
  · rw [decide_eq_true e]; exact this.mpr e
  · rw [decide_eq_false e]
    cases q : PyData.eqv (toP a) (toP b) with
    | false => rfl
    | true => exact absurd (this.mp q) e
open Classical in
theorem xf_eqF {n j : Nat} {a b : D} {m : Mp} {k : K3} (h1 : Fine n a) (h2 : Fine j b) (hn : n ≤ 64) (h : k (.bl (decide (a = b))) m) : fEq a b m k :=
  ⟨_, _, h1.dp, h2.dp, peq_l (Nat.le_trans h1.depth hn), by rw [eqv_fine h1 h2]; exact h⟩
open Classical in
theorem xf_neF {n j : Nat} {a b : D} {m : Mp} {k : K3} (h1 : Fine n a) (h2 : Fine j b) (hn : n ≤ 64) (h : k (.bl (!decide (a = b))) m) : fNe a b m k :=
  ⟨_, _, h1.dp, h2.dp, peq_l (Nat.le_trans h1.depth hn), by rw [eqv_fine h1 h2]; exact h⟩
/-! ### lists of ints: < -/
abbrev ltL (a b : List Int) : Bool := PySem.W.listLt a b
theorem toPs_ints {m : Mp} : ∀ {ns : List Int}, DPs m (ns.map D.int) (ns.map PyData.int)
  | [] => .nil
  | n :: ns => .cons (.int n) toPs_ints
theorem depth_ints : ∀ {ns : List Int}, PyData.depthAll (ns.map PyData.int) ≤ 0
  | [] => Nat.le_refl _
  | n :: ns => by
    have := depth_ints (ns := ns)
    show max 0 (PyData.depthAll (ns.map PyData.int)) ≤ 0
    omega
theorem xf_ltL {m : Mp} {k : K3} {p q : Addr} {a b : List Int} (h1 : RL m p (a.map D.int)) (h2 : RL m q (b.map D.int)) (h : k (.bl (ltL a b)) m) : fLt (.ref p) (.ref q) m k := by
  show ∃ d e, DP m (.ref p) d ∧ DP m (.ref q) e ∧ PEq d e ∧ PySem.W.alike d e = true ∧ d ≠ .none ∧ k (.bl (PySem.W.dataLt d e)) m
  refine ⟨.list (a.map PyData.int), .list (b.map PyData.int), .lst h1 toPs_ints, .lst h2 toPs_ints, ?_, ?_, by simp, ?_⟩
  · refine peq_l ?_
    have := depth_ints (ns := a)
    show PyData.depthAll (a.map PyData.int) + 1 ≤ 64
    omega
  · exact PySem.W.alikeAll_map (α := Int) a b
  · have : PySem.W.dataLt (.list (a.map PyData.int)) (.list (b.map PyData.int)) = ltL a b := PySem.W.lexAll_map (α := Int) a b
    rw [this]; exact h
/-! ### the row of a thing -/
mutual
def rowD : D → List Int
  | .non => [0]
  | .int i => [1, i]
  | .str z => 2 :: (z.cps.toList.map fun c : Nat => (c : Int)) ++ [-1]
  | .tup l => 3 :: rowsD l ++ [-1]
  | .bl _ => [0] | .ref _ => [0] | .ty _ => [0]
def rowsD : List D → List Int
  | [] => []
  | d :: l => rowD d ++ rowsD l
end
def kindD : D → Int
  | .non => 0 | .int _ => 1 | .str _ => 2 | .tup _ => 3 | _ => 0
theorem rowsD_app {l r : List D} : rowsD (l ++ r) = rowsD l ++ rowsD r := by
  induction l with
  | nil => rfl
  | cons d l ih => simp [rowsD, ih]
theorem row_head (d : D) : ∃ t, rowD d = kindD d :: t := by
  cases d <;> exact ⟨_, rfl⟩
theorem kind_nn (d : D) : 0 ≤ kindD d := by cases d <;> simp [kindD]
theorem rows_len {n : Nat} (ih : ∀ d, Fine n d → (rowD d).length ≤ 63 * d.sz) : ∀ {l : List D}, (∀ d ∈ l, Fine n d) → (rowsD l).length ≤ 63 * D.szs l
  | [], _ => by simp [rowsD]
  | d :: l, h => by
    have h1 := ih d (h d (List.mem_cons_self ..))
    have h2 := rows_len ih fun e he => h e (List.mem_cons_of_mem _ he)
    simp only [rowsD, List.length_append, D.szs]
    omega
theorem Fine.row_len : ∀ {n : Nat} {d : D}, Fine n d → (rowD d).length ≤ 63 * d.sz := by
  intro n
  induction n with
  | zero => intro d h; cases d with
    | str z => have := h.1; simp [rowD, D.sz] at *; omega
    | tup l => cases h
    | _ => simp [rowD, D.sz]
  | succ n ih => intro d h; cases d with
    | str z => have := h.1; simp [rowD, D.sz] at *; omega
    | tup l =>
      have := rows_len (n := n) (fun d hd => ih hd) h.2
      simp only [rowD, D.sz, List.length_cons, List.length_append, List.length_nil]
      omega
    | _ => simp [rowD, D.sz]
/-- the two part somewhere -/
def Dv (x y : List Int) : Prop := ∃ p u v s t, x = p ++ u :: s ∧ y = p ++ v :: t ∧ u ≠ v
theorem Dv.app {x y : List Int} (h : Dv x y) (a b : List Int) : Dv (x ++ a) (y ++ b) := by
  obtain ⟨p, u, v, s, t, rfl, rfl, h⟩ := h
  exact ⟨p, u, v, s ++ a, t ++ b, by simp, by simp, h⟩
theorem Dv.pre {x y : List Int} (h : Dv x y) (a : List Int) : Dv (a ++ x) (a ++ y) := by
  obtain ⟨p, u, v, s, t, rfl, rfl, h⟩ := h
  exact ⟨a ++ p, u, v, s, t, by simp, by simp, h⟩
theorem ltL_pre : ∀ (p : List Int) {x y : List Int}, ltL (p ++ x) (p ++ y) = ltL x y
  | [], _, _ => rfl
  | a :: p, x, y => by
    show (if a = a then ltL (p ++ x) (p ++ y) else _) = _
    rw [if_pos rfl]; exact ltL_pre p
theorem ltL_ne {u v : Int} {s t : List Int} (h : u ≠ v) : ltL (u :: s) (v :: t) = decide (u < v) := by
  show (if u = v then _ else _) = _
  rw [if_neg h]; rfl
theorem Dv.lt_app {x y : List Int} (h : Dv x y) (a b : List Int) : ltL (x ++ a) (y ++ b) = ltL x y := by
  obtain ⟨p, u, v, s, t, rfl, rfl, h⟩ := h
  rw [List.append_assoc, List.append_assoc, ltL_pre, ltL_pre, List.cons_append, List.cons_append, ltL_ne h, ltL_ne h]
theorem Dv.tri {x y : List Int} (h : Dv x y) : ltL y x = !ltL x y := by
  obtain ⟨p, u, v, s, t, rfl, rfl, h⟩ := h
  rw [ltL_pre, ltL_pre, ltL_ne h, ltL_ne (Ne.symm h)]
  by_cases q : u < v
  · rw [decide_eq_true q, decide_eq_false (by omega)]; rfl
  · rw [decide_eq_false q, decide_eq_true (by omega)]; rfl
theorem ltL_self : ∀ x : List Int, ltL x x = false
  | [] => rfl
  | a :: x => by
    show (if a = a then ltL x x else _) = _
    rw [if_pos rfl]; exact ltL_self x
theorem dv_codes : ∀ {a b : List Nat}, a ≠ b → Dv ((a.map fun c : Nat => (c : Int)) ++ [-1]) ((b.map fun c : Nat => (c : Int)) ++ [-1])
  | [], [], h => absurd rfl h
  | [], c :: b, _ => ⟨[], -1, c, [], (b.map fun c : Nat => (c : Int)) ++ [-1], rfl, by simp, by omega⟩
  | c :: a, [], _ => ⟨[], c, -1, (a.map fun c : Nat => (c : Int)) ++ [-1], [], by simp, rfl, by omega⟩
  | c :: a, e :: b, h => by
    by_cases q : c = e
    · subst q
      have := dv_codes (a := a) (b := b) (fun z => h (by rw [z]))
      exact this.pre [(c : Int)]
    · exact ⟨[], c, e, (a.map fun c : Nat => (c : Int)) ++ [-1], (b.map fun c : Nat => (c : Int)) ++ [-1], by simp, by simp, by omega⟩
theorem lt_codes : ∀ {a b : List Nat}, ltL ((a.map fun c : Nat => (c : Int)) ++ [-1]) ((b.map fun c : Nat => (c : Int)) ++ [-1]) = decide (a < b)
  | [], [] => by simp [ltL_self]
  | [], c :: b => by
    show ltL (-1 :: []) ((c : Int) :: _) = _
    rw [ltL_ne (by omega)]
    simp
    omega
  | c :: a, [] => by
    show ltL ((c : Int) :: _) (-1 :: []) = _
    rw [ltL_ne (by omega)]
    simp
  | c :: a, e :: b => by
    by_cases q : c = e
    · subst q
      have := lt_codes (a := a) (b := b)
      show ltL ([(c : Int)] ++ ((a.map fun c : Nat => (c : Int)) ++ [-1])) ([(c : Int)] ++ ((b.map fun c : Nat => (c : Int)) ++ [-1])) = _
      rw [ltL_pre, this]
      simp [List.cons_lt_cons_iff]
    · show ltL ((c : Int) :: _) ((e : Int) :: _) = _
      rw [ltL_ne (by omega)]
      simp [List.cons_lt_cons_iff, q]
theorem dv_rows {n : Nat} (ih : ∀ {a b : D}, Fine n a → Fine n b → a ≠ b → Dv (rowD a) (rowD b)) : ∀ {l r : List D}, (∀ d ∈ l, Fine n d) → (∀ d ∈ r, Fine n d) → l ≠ r → Dv (rowsD l ++ [-1]) (rowsD r ++ [-1])
  | [], [], _, _, h => absurd rfl h
  | [], d :: r, _, _, _ => by
    obtain ⟨t, e⟩ := row_head d
    have := kind_nn d
    refine ⟨[], -1, kindD d, [], t ++ rowsD r ++ [-1], rfl, ?_, by omega⟩
    simp [rowsD, e]
  | d :: r, [], _, _, _ => by
    obtain ⟨t, e⟩ := row_head d
    have := kind_nn d
    refine ⟨[], kindD d, -1, t ++ rowsD r ++ [-1], [], ?_, rfl, by omega⟩
    simp [rowsD, e]
  | a :: l, b :: r, h1, h2, h => by
    by_cases q : a = b
    · subst q
      have := dv_rows ih (l := l) (r := r) (fun e he => h1 e (List.mem_cons_of_mem _ he)) (fun e he => h2 e (List.mem_cons_of_mem _ he)) (fun z => h (by rw [z]))
      simp only [rowsD, List.append_assoc]
      exact this.pre _
    · have := ih (h1 a (List.mem_cons_self ..)) (h2 b (List.mem_cons_self ..)) q
      simp only [rowsD, List.append_assoc]
      exact this.app _ _
theorem dv_row : ∀ {n : Nat} {a b : D}, Fine n a → Fine n b → a ≠ b → Dv (rowD a) (rowD b) := by
  intro n
  induction n with
  | zero =>
    intro a b h h' ne
    by_cases q : kindD a = kindD b
    · cases a <;> cases b <;> first | exact (show False from h).elim | exact (show False from h').elim | (simp [kindD] at q; done) | exact absurd rfl ne | skip
      · rename_i i j; exact ⟨[1], i, j, [], [], rfl, rfl, fun z => ne (by rw [z])⟩
      · rename_i i j
        exact (dv_codes (fun z => ne (by rw [PySem.W.str_of_cps z]))).pre [2]
    · obtain ⟨t, e⟩ := row_head a
      obtain ⟨t', e'⟩ := row_head b
      exact ⟨[], _, _, t, t', e, e', q⟩
  | succ n ih =>
    intro a b h h' ne
    by_cases q : kindD a = kindD b
    · cases a <;> cases b <;> first | exact (show False from h).elim | exact (show False from h').elim | (simp [kindD] at q; done) | exact absurd rfl ne | skip
      · rename_i i j; exact ⟨[1], i, j, [], [], rfl, rfl, fun z => ne (by rw [z])⟩
      · rename_i i j
        exact (dv_codes (fun z => ne (by rw [PySem.W.str_of_cps z]))).pre [2]
      · rename_i l r
        exact (dv_rows ih h.2 h'.2 (fun z => ne (by rw [z]))).pre [3]
    · obtain ⟨t, e⟩ := row_head a
      obtain ⟨t', e'⟩ := row_head b
      exact ⟨[], _, _, t, t', e, e', q⟩
theorem Fine.dv {n k : Nat} {a b : D} (h : Fine n a) (h' : Fine k b) (ne : a ≠ b) : Dv (rowD a) (rowD b) := dv_row (h.le (Nat.le_max_left n k)) (h'.le (Nat.le_max_right n k)) ne
theorem row_kinds {a b : D} (h : kindD a ≠ kindD b) : ltL (rowD a) (rowD b) = decide (kindD a < kindD b) := by
  obtain ⟨t, e⟩ := row_head a
  obtain ⟨t', e'⟩ := row_head b
  rw [e, e', ltL_ne h]
open Classical in
/-- which is ahead -/
noncomputable def sideD (a b : D) : Int := if a = b then 0 else if ltL (rowD a) (rowD b) = true then -1 else 1
theorem sideD_self (a : D) : sideD a a = 0 := if_pos rfl
theorem sideD_ne {a b : D} (h : a ≠ b) : sideD a b = if ltL (rowD a) (rowD b) = true then -1 else 1 := if_neg h
theorem sideD_zero {a b : D} : sideD a b = 0 ↔ a = b := by
  constructor
  · intro h
    by_cases e : a = b
    · exact e
    · rw [sideD_ne e] at h; split at h <;> cases h
  · intro h; rw [h]; exact sideD_self b
theorem sideD_neg {a b : D} : sideD a b < 0 ↔ ltL (rowD a) (rowD b) = true := by
  by_cases e : a = b
  · subst e; rw [sideD_self, ltL_self]; simp
  · rw [sideD_ne e]
    split
    · rename_i h; simp [h]
    · rename_i h; simp [h]
theorem side_int {i j : Int} (h : D.int i ≠ D.int j) : sideD (.int i) (.int j) = if i < j then -1 else 1 := by
  rw [sideD_ne h]
  have : ltL (rowD (.int i)) (rowD (.int j)) = decide (i < j) := by
    show ltL ([1] ++ [i]) ([1] ++ [j]) = _
    rw [ltL_pre, ltL_ne (fun z => h (by rw [z]))]
  rw [this]; simp
theorem side_str {i j : Str} (h : D.str i ≠ D.str j) : sideD (.str i) (.str j) = if i.cps.toList < j.cps.toList then -1 else 1 := by
  rw [sideD_ne h]
  have : ltL (rowD (.str i)) (rowD (.str j)) = decide (i.cps.toList < j.cps.toList) := by
    rw [← lt_codes]
    exact ltL_pre [2]
  rw [this]; simp
theorem parts_at {l : List D} {i : Nat} {x : D} (h : l[i]? = some x) : rowsD l = rowsD (l.take i) ++ (rowD x ++ rowsD (l.drop (i + 1))) := by
  obtain ⟨hi, e⟩ := List.getElem?_eq_some_iff.mp h
  have : l = l.take i ++ (x :: l.drop (i + 1)) := by
    rw [← e, ← List.drop_eq_getElem_cons hi, List.take_append_drop]
  conv => lhs; rw [this, rowsD_app]
  rfl
theorem side_part {n k : Nat} {l r : List D} {i : Nat} {x y : D} (e : l.take i = r.take i) (hx : l[i]? = some x) (hy : r[i]? = some y) (h1 : Fine n x) (h2 : Fine k y) (ne : x ≠ y) : sideD (.tup l) (.tup r) = sideD x y := by
  have : D.tup l ≠ .tup r := by
    rintro z
    injection z with z
    rw [z] at hx
    rw [hx] at hy
    injection hy with hy
    exact ne hy
  rw [sideD_ne this, sideD_ne ne]
  have q : ltL (rowD (.tup l)) (rowD (.tup r)) = ltL (rowD x) (rowD y) := by
    show ltL ([3] ++ rowsD l ++ [-1]) ([3] ++ rowsD r ++ [-1]) = _
    rw [parts_at hx, parts_at hy, e]
    simp only [List.append_assoc]
    rw [ltL_pre, ltL_pre]
    exact (h1.dv h2 ne).lt_app _ _
  rw [q]
theorem side_len {l r : List D} (e : l.take (min l.length r.length) = r.take (min l.length r.length)) (ne : l ≠ r) : sideD (.tup l) (.tup r) = if l.length < r.length then -1 else 1 := by
  have : D.tup l ≠ .tup r := fun z => ne (by injection z)
  rw [sideD_ne this]
  have q : ltL (rowD (.tup l)) (rowD (.tup r)) = decide (l.length < r.length) := by
    show ltL ([3] ++ rowsD l ++ [-1]) ([3] ++ rowsD r ++ [-1]) = _
    by_cases h : l.length < r.length
    · rw [Nat.min_eq_left (by omega), List.take_length] at e
      have hr : r[l.length]? = some r[l.length] := List.getElem?_eq_getElem h
      rw [parts_at hr, ← e, decide_eq_true h]
      simp only [List.append_assoc]
      rw [ltL_pre, ltL_pre]
      obtain ⟨t, et⟩ := row_head r[l.length]
      rw [et]
      have := kind_nn r[l.length]
      show ltL (-1 :: []) (_ :: _) = true
      rw [ltL_ne (by omega), decide_eq_true (by omega)]
    · by_cases h' : l.length = r.length
      · rw [h', Nat.min_self, ← h', List.take_length, h', List.take_length] at e
        exact absurd e ne
      · rw [Nat.min_eq_right (by omega), List.take_length] at e
        have hl : l[r.length]? = some l[r.length] := List.getElem?_eq_getElem (by omega)
        rw [parts_at hl, e, decide_eq_false h]
        simp only [List.append_assoc]
        rw [ltL_pre, ltL_pre]
        obtain ⟨t, et⟩ := row_head l[r.length]
        rw [et]
        have := kind_nn l[r.length]
        show ltL (_ :: _) (-1 :: []) = false
        rw [ltL_ne (by omega), decide_eq_false (by omega)]
  rw [q]; simp
theorem take_next {l r : List D} {i : Nat} {x : D} (e : l.take i = r.take i) (hx : l[i]? = some x) (hy : r[i]? = some x) : l.take (i + 1) = r.take (i + 1) := by
  rw [List.take_add_one, List.take_add_one, e, hx, hy]
/-! ### slices -/
theorem mem_cutD {l : List D} {lo hi : Option Int} {d : D} (h : d ∈ cutD l lo hi) : d ∈ l := List.mem_of_mem_drop (List.mem_of_mem_take h)
theorem len_cutD {l : List D} {lo hi : Option Int} : (cutD l lo hi).length ≤ l.length := by
  unfold cutD; rw [List.length_take, List.length_drop]; omega
theorem szs_drop {l : List D} {n : Nat} : D.szs (l.drop n) ≤ D.szs l := by
  have := szs_app (l := l.take n) (r := l.drop n)
  rw [List.take_append_drop] at this
  omega
theorem szs_cutD {l : List D} {lo hi : Option Int} : D.szs (cutD l lo hi) ≤ D.szs l := Nat.le_trans szs_take szs_drop
theorem cutD_take {l : List D} {n : Nat} : cutD l none (some (n : Int)) = l.take n := by
  unfold cutD
  rw [HT.sIx_nat, HT.sIx_none, List.drop_zero, Nat.sub_zero]
  by_cases h : n ≤ l.length
  · rw [Nat.min_eq_left h]
  · rw [Nat.min_eq_right (by omega), List.take_length, List.take_of_length_le (by omega)]
theorem cutD_drop {l : List D} {n : Nat} : cutD l (some (n : Int)) none = l.drop n := by
  unfold cutD
  rw [HT.sIx_nat, HT.sIx_none]
  by_cases h : n ≤ l.length
  · rw [Nat.min_eq_left h]; exact List.take_of_length_le (by simp)
  · rw [Nat.min_eq_right (by omega), List.drop_eq_nil_of_le (Nat.le_refl _), List.drop_eq_nil_of_le (by omega)]; simp
theorem szs_at {l : List D} {i : Nat} {x : D} (h : l[i]? = some x) : D.szs l = D.szs (l.take i) + (x.sz + D.szs (l.drop (i + 1))) := by
  obtain ⟨hi, e⟩ := List.getElem?_eq_some_iff.mp h
  have : l = l.take i ++ (x :: l.drop (i + 1)) := by
    rw [← e, ← List.drop_eq_getElem_cons hi, List.take_append_drop]
  conv => lhs; rw [this, szs_app]
  rfl
theorem cutS_list {z : Str} {lo hi : Option Int} : (cutS z lo hi).cps.toList = (z.cps.toList.drop (HT.sIx z.length 0 lo)).take (HT.sIx z.length z.length hi - HT.sIx z.length 0 lo) := by
  unfold cutS; simp
theorem mem_cutS {z : Str} {lo hi : Option Int} {c : Nat} (h : c ∈ (cutS z lo hi).cps.toList) : c ∈ z.cps.toList := by
  rw [cutS_list] at h
  exact List.mem_of_mem_drop (List.mem_of_mem_take h)
theorem len_cutS {z : Str} {lo hi : Option Int} : (cutS z lo hi).cps.toList.length ≤ z.cps.toList.length := by
  rw [cutS_list, List.length_take, List.length_drop]; omega
theorem len_cutS_n {z : Str} {n : Nat} : (cutS z none (some (n : Int))).cps.toList.length ≤ n := by
  rw [cutS_list, HT.sIx_nat, List.length_take]; omega
theorem TxtOk.cut {z : Str} {lo hi : Option Int} (h : TxtOk z) : TxtOk (cutS z lo hi) := ⟨Nat.le_trans len_cutS h.1, fun c hc => h.2 c (mem_cutS hc)⟩
theorem xf_slS' {m : Mp} {k : K3} {lo hi : Option Int} {z : Str} (h0 : z.cps.toList.length ≤ 100000) (h : k (.str (cutS z lo hi)) m) : fSl (.str z) lo hi m k := ⟨by rw [str_len]; exact Nat.le_trans h0 (by decide), h⟩
theorem fx_T {m : Mp} {k : K3} {l : List D} {n : Int} (h2 : 0 ≤ n) (h3 : n < l.length) (h : ∀ d, d ∈ l → l[n.toNat]? = some d → k d m) : fIx (.tup l) (.int n) m k := by
  obtain ⟨hj, e⟩ := atI_nat h2 h3
  exact ⟨_, e, h _ (List.getElem_mem hj) (List.getElem?_eq_getElem hj)⟩
theorem len_cutD_n {l : List D} {n : Nat} : (cutD l none (some (n : Int))).length ≤ n := by rw [cutD_take, List.length_take]; omega
theorem rep_flat {n : Nat} {d : D} : (List.replicate n [d]).flatten = List.replicate n d := by simp
end PV

/-! From the promises to the law. -/
namespace PV
open PySem L2 PyProof.Rows
section
variable {P : Program} {w : World} {K : PySem.W.Frag} {mg : Str → Option Value} {base : Heap} {cl : Cl}
theorem fn0 {CXx : CXT} {fa : Addr} {fd : FuncData} {ps : List Str} {S : FSpec} : FnOk P w K mg base CXx 0 fa fd ps (liftSp K cl S 0) :=
  ⟨fun vs H Q E ⟨_, _, _, _, _, h, _⟩ => absurd h (Nat.not_lt_zero _), fun A outer s H args us vs Q E _ _ _ _ ⟨_, _, _, _, _, h, _⟩ => absurd h (Nat.not_lt_zero _)⟩
theorem kn_mk {tab : Nat → FSpec} {L i : Nat} {x qual f : Str} {st : Stmt} {fa : Addr} {fd : FuncData} {ps : List Str} (at_ : mg f = some (.ref fa)) (F : Fun K x qual st fa fd) (hb : Binds K fd ps [])
    (ok : FnOk P w K mg base (L2.CX P w) L fa fd ps (liftSp K cl (tab i) L)) : Kn P w K mg base cl (fun i S => S = tab i) L i f fa :=
  ⟨at_, F.kp, fun S e => by subst e; exact ⟨fd, ps, ok, hb⟩⟩
theorem reps_ints {H : Hp} : ∀ {ns : List Int}, Reps K H (ns.map D.int) (ns.map V.int)
  | [] => rfl
  | n :: ns => ⟨_, _, rfl, rfl, reps_ints⟩
theorem scr_start {H : Hp} {a : Addr} {ns : List Int} (hO : Only H) (hS : SqL K H a (ns.map V.int)) : ∃ m, Ab K cl H m ∧ Scr m a (ns.map D.int) := by
  rcases hS with hS | hS
  · have h : ∃ o, H a = some (.frz o (.lst (ns.map V.int))) := by
      rcases hS with hS | ⟨o, hS⟩
      · rcases hO a with e | ⟨o, xs, e⟩
        · rw [hS] at e; cases e
        · rw [hS] at e; cases e
      · exact ⟨o, hS⟩
    obtain ⟨o, h⟩ := h
    refine ⟨⟨fun b => if b = a then some (.rol (ns.map D.int)) else none, fun _ => none⟩, ⟨fun b u e => ?_, fun b l e => (by cases e)⟩, .inl (if_pos rfl)⟩
    dsimp only at e
    split at e
    · rename_i q
      cases e; subst q
      exact ⟨o, _, h, reps_ints⟩
    · cases e
  · refine ⟨⟨fun _ => none, fun b => if b = a then some (ns.map D.int) else none⟩, ⟨fun b u e => (by cases e), fun b l e => ?_⟩, .inr (if_pos rfl)⟩
    dsimp only at e
    split at e
    · rename_i q
      cases e; subst q
      exact ⟨_, hS, fun _ => reps_ints⟩
    · cases e
/-- a law's promise: True, and nothing raised -/
theorem law_sp {S : FSpec} {H : Hp} {a : Addr} {ns : List Int} {L : Nat} (al : S.al) (hl : S.lev al < L) (hO : Only H) (hS : SqL K H a (ns.map V.int))
    (pre : ∀ m, Scr m a (ns.map D.int) → S.pre al [.ref a] m) (post : ∀ m d m', S.post al m d m' → d = .bl true) (exc : ∀ m x m', ¬ S.exc al m x m') :
    liftSp K cl S L [.ref a] H (fun v _ => v = .bl true) fun _ _ _ => False := by
  obtain ⟨m, h1, h2⟩ := scr_start (cl := cl) hO hS
  refine ⟨[.ref a], m, al, ⟨_, _, rfl, rfl, rfl⟩, h1, hl, pre m h2, fun d m' h v H' r _ _ => ?_, fun x m' h => absurd h (exc _ _ _)⟩
  have := post _ _ _ h
  subst this
  exact r
/-- the law's promise as it is wanted: of a script, True, and nothing raised -/
def rawSp (K : PySem.W.Frag) : Sp := fun vs H Q _ => ∃ (a : Addr) (ns : List Int), vs = [.ref a] ∧ Only H ∧ SqL K H a (ns.map V.int) ∧ ∀ v H', v = V.bl true → Q v H'
theorem raw_of {S : FSpec} {L : Nat} (al : Addr → List Int → S.al) (hl : ∀ a ns, S.lev (al a ns) < L) (pre : ∀ a ns m, Scr m a (ns.map D.int) → S.pre (al a ns) [.ref a] m) (post : ∀ al m d m', S.post al m d m' → d = .bl true)
    (exc : ∀ al m x m', ¬ S.exc al m x m') : ∀ vs H Q E, rawSp K vs H Q E → liftSp K cl S L vs H Q E := by
  rintro vs H Q E ⟨a, ns, rfl, hO, hS, hq⟩
  obtain ⟨m, h1, h2⟩ := scr_start (cl := cl) hO hS
  refine ⟨[.ref a], m, al a ns, ⟨_, _, rfl, rfl, rfl⟩, h1, hl a ns, pre a ns m h2, fun d m' h v H' r _ _ => ?_, fun x m' h => absurd h (exc _ _ _ _)⟩
  have := post _ _ _ _ h
  subst this
  exact hq v H' r
end
end PV

/-! Codes and seals of things. -/
namespace PV
open PySem L2 PyProof.Rows
/-- a piece of at most seven signs, as a number -/
def chunkD (l : List Nat) : Int := l.foldl (fun (a : Int) (c : Nat) => 128 * a + c) 0
def chunkN (l : List Nat) : Nat := (l.length + 6) / 7
def chunkAt (l : List Nat) (i : Nat) : Int := chunkD ((l.drop (7 * i)).take 7)
def tcodes (l : List Nat) : List Int := (List.range (chunkN l)).map (chunkAt l)
mutual
def codeD : D → List Int
  | .non => [1]
  | .int i => [2, (i + 1000000000000000000000000000000) / 1000000000000000, (i + 1000000000000000000000000000000) % 1000000000000000]
  | .str z => 3 :: (z.cps.toList.length : Int) :: tcodes z.cps.toList
  | .tup l => 4 :: (l.length : Int) :: codesD l
  | .bl _ => [1] | .ref _ => [1] | .ty _ => [1]
def codesD : List D → List Int
  | [] => []
  | d :: l => codeD d ++ codesD l
end
def sealOn (a : Int) (l : List Int) : Int := l.foldl (fun a c => (a * 1234567890123456789 + c) % 2305843009213693951) a
def sealD (d : D) : Int := sealOn 7 (codeD d) + 1
theorem codesD_app {l r : List D} : codesD (l ++ r) = codesD l ++ codesD r := by
  induction l with
  | nil => rfl
  | cons d l ih => simp [codesD, ih]
theorem tcodes_len {l : List Nat} : (tcodes l).length = chunkN l := by simp [tcodes]
theorem codes_len {n : Nat} (ih : ∀ d, Fine n d → (codeD d).length ≤ 12 * d.sz) : ∀ {l : List D}, (∀ d ∈ l, Fine n d) → (codesD l).length ≤ 12 * D.szs l
  | [], _ => by simp [codesD]
  | d :: l, h => by
    have h1 := ih d (h d (List.mem_cons_self ..))
    have h2 := codes_len ih fun e he => h e (List.mem_cons_of_mem _ he)
    simp only [codesD, List.length_append, D.szs]
    omega
theorem Fine.code_len : ∀ {n : Nat} {d : D}, Fine n d → (codeD d).length ≤ 12 * d.sz := by
  intro n
  induction n with
  | zero => intro d h; cases d with
    | str z => have := h.1; simp only [codeD, D.sz, List.length_cons, tcodes_len, chunkN]; omega
    | tup l => cases h
    | _ => simp [codeD, D.sz]
  | succ n ih => intro d h; cases d with
    | str z => have := h.1; simp only [codeD, D.sz, List.length_cons, tcodes_len, chunkN]; omega
    | tup l =>
      have := codes_len (n := n) (fun d hd => ih hd) h.2
      simp only [codeD, D.sz, List.length_cons]
      omega
    | _ => simp [codeD, D.sz]
theorem sealOn_nn {a : Int} (h0 : 0 ≤ a) (h1 : a < 2305843009213693951) : ∀ (l : List Int), 0 ≤ sealOn a l ∧ sealOn a l < 2305843009213693951 := by
  intro l
  induction l generalizing a with
  | nil => exact ⟨h0, h1⟩
  | cons c l ih => exact ih (Int.emod_nonneg _ (by decide)) (Int.emod_lt_of_pos _ (by decide))
theorem sealD_pos (d : D) : 1 ≤ sealD d ∧ sealD d ≤ 2305843009213693951 := by
  have := sealOn_nn (a := 7) (by decide) (by decide) (codeD d)
  unfold sealD; omega
theorem sealOn_app {a : Int} {l r : List Int} : sealOn a (l ++ r) = sealOn (sealOn a l) r := by unfold sealOn; rw [List.foldl_append]
theorem fits_of {i : Int} (h : 0 ≤ i) (h' : i < 1000000) : Builtin.Range.rangeFitsLong i = true := by
  unfold Builtin.Range.rangeFitsLong
  rw [decide_eq_true (by omega), decide_eq_true (by omega)]; rfl
theorem rgc7 {n : Nat} (h : n ≤ 100000) : RgC 0 n 7 ((n + 6) / 7) := by
  have e : Builtin.Range.rangeSize 0 n 7 = ((n + 6) / 7 : Nat) := by
    rw [rangeSize_pos (by decide) (by omega)]
    omega
  refine ⟨by decide, by decide, ?_, e⟩
  unfold Builtin.Range.small
  rw [e, fits_of (i := 0) (by decide) (by decide), fits_of (i := (n : Int)) (by omega) (by omega), fits_of (i := 7) (by decide) (by decide), fits_of (i := (((n + 6) / 7 : Nat) : Int)) (by omega) (by omega), if_pos (by decide), fits_of (by omega) (by omega)]
  simp
theorem chunk_bound : ∀ {l : List Nat} {a : Int} {b : Int}, 0 ≤ a → a < b → (∀ c ∈ l, c < 128) → 0 ≤ l.foldl (fun (a : Int) (c : Nat) => 128 * a + c) a ∧ l.foldl (fun (a : Int) (c : Nat) => 128 * a + c) a < b * 128 ^ l.length
  | [], a, b, h0, h1, _ => by simp; omega
  | c :: l, a, b, h0, h1, h => by
    have hc := h c (List.mem_cons_self ..)
    have := chunk_bound (l := l) (a := 128 * a + c) (b := b * 128) (by omega) (by omega) (fun e he => h e (List.mem_cons_of_mem _ he))
    rw [List.foldl_cons, List.length_cons, Int.pow_succ]
    refine ⟨this.1, ?_⟩
    have e : b * (128 ^ l.length * 128) = b * 128 * 128 ^ l.length := by rw [Int.mul_comm (128 ^ l.length) 128, Int.mul_assoc]
    rw [e]; exact this.2
theorem chunk_take_next {l : List Nat} {i : Nat} {c : Nat} (h : l[i]? = some c) : chunkD (l.take (i + 1)) = 128 * chunkD (l.take i) + c := by
  rw [List.take_add_one, h]
  unfold chunkD
  rw [List.foldl_append]; rfl
theorem chunk_small {l : List Nat} (h : ∀ c ∈ l, c < 128) (hl : l.length ≤ 7) : 0 ≤ chunkD l ∧ chunkD l < 1000000000000000000 := by
  have := chunk_bound (l := l) (a := 0) (b := 1) (by decide) (by decide) h
  refine ⟨this.1, Int.lt_of_lt_of_le this.2 ?_⟩
  have : (128:Int) ^ l.length ≤ 128 ^ 7 := by exact_mod_cast Nat.pow_le_pow_right (by decide) hl
  omega
theorem tcodes_next {l : List Nat} {i : Nat} : ((List.range (i + 1)).map (chunkAt l)) = ((List.range i).map (chunkAt l)) ++ [chunkAt l i] := by
  rw [List.range_succ, List.map_append]; rfl
/-- the piece cut -/
theorem cut_chunk {z : Str} {i : Nat} (h : 7 * i ≤ z.cps.toList.length) : (cutS z (some ((7 * i : Nat) : Int)) (some ((7 * i + 7 : Nat) : Int))).cps.toList = (z.cps.toList.drop (7 * i)).take 7 := by
  rw [cutS_list, HT.sIx_nat, HT.sIx_nat, str_len, Nat.min_eq_left h]
  by_cases q : 7 * i + 7 ≤ z.cps.toList.length
  · rw [Nat.min_eq_left q, show 7 * i + 7 - 7 * i = 7 by omega]
  · rw [Nat.min_eq_right (by omega), List.take_of_length_le (by simp), List.take_of_length_le (by simp; simp at q; omega)]
theorem xf_lenS' {m : Mp} {k : K3} {z : Str} (h0 : z.cps.toList.length ≤ 100000) (h : k (.int z.cps.toList.length) m) : fLen [.str z] m k := ⟨by rw [str_len]; exact Nat.le_trans h0 (by decide), by rw [str_len]; exact h⟩
theorem x_ir3' {i j c : Int} {n : Nat} {Z : Int → Int → Int → Nat → Prop} (h0 : RgC i j c n) (h : Z i j c n) : ∃ (i' j' c' : Int) (n' : Nat), [D.int i, D.int j, D.int c] = [.int i', .int j', .int c'] ∧ RgC i' j' c' n' ∧ Z i' j' c' n' := ⟨i, j, c, n, rfl, h0, h⟩
theorem sg_lt {z : Str} (h : TxtOk z) {c : Nat} (hc : c ∈ z.cps.toList) : c < 128 := by have := (h.2 c hc).2.1; omega
theorem pw_at {e : Nat} (h : e ≤ 6) : atI [D.int 1, .int 128, .int 16384, .int 2097152, .int 268435456, .int 34359738368, .int 4398046511104] (e : Int) = some (.int (128 ^ e)) := by
  have : e = 0 ∨ e = 1 ∨ e = 2 ∨ e = 3 ∨ e = 4 ∨ e = 5 ∨ e = 6 := by omega
  rcases this with rfl | rfl | rfl | rfl | rfl | rfl | rfl <;> rfl
theorem sum_snoc {l : List Int} {a : Int} : (l ++ [a]).sum = l.sum + a := by simp
end PV

/-! Seals: alike and unlike. -/
namespace PV
open PySem L2 PyProof.Rows
theorem em_seal (x c : Int) : ((x % 2305843009213693951) * 1234567890123456789 + c) % 2305843009213693951 = (x * 1234567890123456789 + c) % 2305843009213693951 := by
  rw [Int.add_emod, Int.mul_emod, Int.emod_emod, ← Int.mul_emod, ← Int.add_emod]
theorem inj_a {a b k : Int} (I J M B : Int) (hI : I * B = M * J + 1) (e : B * (a - b) = M * k) : a - b = M * (I * k - J * (a - b)) := by
  have e3 : I * (B * (a - b)) = I * (M * k) := by rw [e]
  rw [← Int.mul_assoc, hI, Int.add_mul, Int.one_mul] at e3
  rw [Int.mul_sub, ← Int.mul_assoc M J, ← Int.mul_assoc M I, Int.mul_comm M I, Int.mul_assoc I M]
  omega
theorem inj_b {a b c B M : Int} (h : (a * B + c) % M = (b * B + c) % M) : ∃ k, B * (a - b) = M * k := by
  refine ⟨(a * B + c) / M - (b * B + c) / M, ?_⟩
  have e1 := Int.emod_add_mul_ediv (a * B + c) M
  have e2 := Int.emod_add_mul_ediv (b * B + c) M
  rw [h] at e1
  rw [Int.mul_sub, Int.mul_sub, Int.mul_comm B a, Int.mul_comm B b]
  omega
theorem inj_seal {a b c : Int} (h0 : 0 ≤ a) (h1 : a < 2305843009213693951) (h2 : 0 ≤ b) (h3 : b < 2305843009213693951) (h : (a * 1234567890123456789 + c) % 2305843009213693951 = (b * 1234567890123456789 + c) % 2305843009213693951) : a = b := by
  obtain ⟨k, e⟩ := inj_b h
  have e4 := inj_a 2179019607881955056 1166665566168714833 _ _ (by decide) e
  generalize (2179019607881955056 : Int) * k - 1166665566168714833 * (a - b) = t at e4
  clear e h
  omega
theorem inj_on : ∀ (l : List Int) {a b : Int}, 0 ≤ a → a < 2305843009213693951 → 0 ≤ b → b < 2305843009213693951 → a ≠ b → sealOn a l ≠ sealOn b l
  | [], _, _, _, _, _, _, h => h
  | c :: l, a, b, h0, h1, h2, h3, h => by
    refine inj_on l (Int.emod_nonneg _ (by decide)) (Int.emod_lt_of_pos _ (by decide)) (Int.emod_nonneg _ (by decide)) (Int.emod_lt_of_pos _ (by decide)) (fun e => h (inj_seal h0 h1 h2 h3 e))
/-- alike wherever they stand, unlike wherever they stand -/
def SA (x y : List Int) : Prop := ∀ a, sealOn a x = sealOn a y
def DA (x y : List Int) : Prop := ∀ a, sealOn a x ≠ sealOn a y
theorem SA.mid {x y : List Int} (h : SA x y) (p q : List Int) : SA (p ++ x ++ q) (p ++ y ++ q) := fun a => by
  rw [sealOn_app, sealOn_app, sealOn_app, sealOn_app, h]
theorem DA.mid {x y : List Int} (h : DA x y) (hx : x ≠ []) (hy : y ≠ []) (p q : List Int) : DA (p ++ x ++ q) (p ++ y ++ q) := fun a => by
  rw [sealOn_app, sealOn_app, sealOn_app, sealOn_app]
  have nn : ∀ (z : List Int), z ≠ [] → ∀ b, 0 ≤ sealOn b z ∧ sealOn b z < 2305843009213693951 := fun z hz b => by
    cases z with
    | nil => exact absurd rfl hz
    | cons c z => exact sealOn_nn (Int.emod_nonneg _ (by decide)) (Int.emod_lt_of_pos _ (by decide)) z
  exact inj_on q (nn x hx _).1 (nn x hx _).2 (nn y hy _).1 (nn y hy _).2 (h _)
theorem sealOn3 (a h l : Int) : sealOn a [2, h, l] = (((a * 1234567890123456789 + 2) * 1234567890123456789 + h) * 1234567890123456789 + l) % 2305843009213693951 := by
  show ((((a * 1234567890123456789 + 2) % 2305843009213693951) * 1234567890123456789 + h) % 2305843009213693951 * 1234567890123456789 + l) % 2305843009213693951 = _
  rw [em_seal]
  generalize a * 1234567890123456789 + 2 = b
  rw [Int.add_emod, Int.mul_emod, em_seal, ← Int.mul_emod, ← Int.add_emod]
/-- the two numbers of a pair have codes that are alike -/
theorem sa_num {h l t r : Int} (e : (t * 1234567890123456789) % 2305843009213693951 = r % 2305843009213693951) : SA [2, h, l] [2, h + t, l - r] := fun a => by
  rw [sealOn3, sealOn3]
  generalize (a * 1234567890123456789 + 2) * 1234567890123456789 = b
  have e1 : ((b + (h + t)) * 1234567890123456789 + (l - r)) = ((b + h) * 1234567890123456789 + l) + (t * 1234567890123456789 - r) := by omega
  rw [e1]
  have e2 : (t * 1234567890123456789 - r) % 2305843009213693951 = 0 := Int.emod_eq_emod_iff_emod_sub_eq_zero.mp e
  rw [Int.add_emod _ (t * 1234567890123456789 - r), e2, Int.add_zero, Int.emod_emod]
theorem da_num {h l v : Int} (hv : v = 1 ∨ v = -1) : DA [2, h, l] [2, h, l + v] := fun a => by
  rw [sealOn3, sealOn3]
  generalize ((a * 1234567890123456789 + 2) * 1234567890123456789 + h) * 1234567890123456789 = b
  omega
end PV

/-! Exceptions: raised, caught, asked; classes: made, fields, methods. -/
namespace PV
open PySem L2 PyProof.Rows
/-- is an exception of the class C one of the class n -/
def subX (C n : String) : Bool := C == n || n == "VaultError" || n == "ValueError"
/-! ### what the written part says of the exception classes -/
/-- one fact a row: each is read off the written part -/
structure ExF (K : PySem.W.Frag) (a : Addr) : Prop where
  ga : PySem.W.findIn K (.ref a) "__getattribute__" = some (some (.builtin "BaseException.__getattribute__"))
  gg : PySem.W.findIn K (.ref a) "__getattr__" = some none
  sb : PySem.W.subIn K (.ref a) (.type "BaseException") = some true
  hd : PySem.W.hasDictIn K a = true
  ty : PySem.W.typeIn K (.ref a) = some (.type "type")
  cls : PySem.W.findIn K (.ref a) "__class__" = some (some (.builtin "object.__class__"))
  mro : PySem.W.mroIn K a (.type "object") = some true
  kp : PySem.W.keepIn K (.ref a) = true
  ve : PySem.W.subIn K (.ref a) (.type "ValueError") = some true
  non : PySem.W.subIn K (.type "NoneType") (.ref a) = some false
  gs : PySem.W.specialIn K (.builtin "object.__class__") "__get__" = some (some (.builtin "getset_descriptor.__get__"))
  tk : PySem.W.takesIn K (.builtin "object.__class__") = some true
  is : PySem.W.isClsIn K a = true
  eq : PySem.W.findIn K (.ref a) "__eq__" = some (some (.builtin "object.__eq__"))
  n1 : PySem.W.subIn K (.ref a) (.type "int") = some false
  n2 : PySem.W.subIn K (.ref a) (.type "str") = some false
  n3 : PySem.W.subIn K (.ref a) (.type "tuple") = some false
  n4 : PySem.W.subIn K (.ref a) (.type "list") = some false
  n5 : PySem.W.subIn K (.ref a) (.type "bool") = some false
/-- kinds that no exception is of -/
def plainT : List String := ["int", "str", "tuple", "list", "bool"]
structure ExB (K : PySem.W.Frag) (a : Addr) : Prop where
  xf : XfC K a
  ty : PySem.W.typeIn K (.ref a) = some (.type "type")
  cls : PySem.W.findIn K (.ref a) "__class__" = some (some (.builtin "object.__class__"))
  mro : PySem.W.mroIn K a (.type "object") = some true
  kp : PySem.W.keepIn K (.ref a) = true
  ve : PySem.W.kitOne K (.ref a) (.type "ValueError") = some true
  non : PySem.W.kitOne K (.type "NoneType") (.ref a) = some false
  gs : PySem.W.specialIn K (.builtin "object.__class__") "__get__" = some (some (.builtin "getset_descriptor.__get__"))
  tk : PySem.W.takesIn K (.builtin "object.__class__") = some true
  is : (PySem.W.clsIn K a).isSome = true
  eq : PySem.W.findIn K (.ref a) "__eq__" = some (some (.builtin "object.__eq__"))
  nb : ∀ T ∈ plainT, PySem.W.kitOne K (.ref a) (.type T) = some false
theorem kit_ref {K : PySem.W.Frag} {t : Value} {a : Addr} (h1 : PySem.W.isClsIn K a = true) (h2 : PySem.W.typeIn K (.ref a) = some (.type "type")) : PySem.W.kitCls K t (.ref a) = PySem.W.subIn K t (.ref a) := by
  have e2 : ((PySem.W.clsIn K a).isSome && PySem.W.typeIn K (.ref a) == some (.type "type")) = true := by
    rw [show (PySem.W.clsIn K a).isSome = true from h1, h2]; rfl
  show (if ((PySem.W.clsIn K a).isSome && PySem.W.typeIn K (.ref a) == some (.type "type")) = true then PySem.W.subIn K t (.ref a) else none) = _
  rw [if_pos e2]
theorem kit_bt {K : PySem.W.Frag} {a : Addr} {T : String} {b : Bool} (hm : PySem.W.kitMeta T = true) (h : PySem.W.subIn K (.ref a) (.type T) = some b) : PySem.W.kitOne K (.ref a) (.type T) = some b := by
  show (if ((Value.ref a == Value.type T) = true) then some true else PySem.W.kitCls K (.ref a) (.type T)) = _
  rw [if_neg (by intro z; cases z)]
  show (if PySem.W.kitMeta T = true then PySem.W.subIn K (.ref a) (.type T) else none) = _
  rw [if_pos hm]; exact h
theorem ExF.b {K : PySem.W.Frag} {a : Addr} (h : ExF K a) : ExB K a := by
  refine ⟨?_, h.ty, h.cls, h.mro, h.kp, ?_, ?_, h.gs, h.tk, h.is, h.eq, ?_⟩
  · refine xfB_ok ?_
    unfold xfB
    rw [decide_eq_true h.ga, decide_eq_true h.gg, decide_eq_true h.sb, h.hd]; rfl
  · show (if ((Value.ref a == Value.type "ValueError") = true) then some true else PySem.W.kitCls K (.ref a) (.type "ValueError")) = _
    rw [if_neg (by intro z; cases z)]
    show (if PySem.W.kitMeta "ValueError" = true then PySem.W.subIn K (.ref a) (.type "ValueError") else none) = _
    rw [if_pos (by decide +kernel)]; exact h.ve
  · show (if ((Value.type "NoneType" == Value.ref a) = true) then some true else PySem.W.kitCls K (.type "NoneType") (.ref a)) = _
    rw [if_neg (by intro z; cases z), kit_ref h.is h.ty]; exact h.non
  · intro T hT
    simp only [plainT, List.mem_cons, List.not_mem_nil, or_false] at hT
    rcases hT with rfl | rfl | rfl | rfl | rfl
    · exact kit_bt (by decide +kernel) h.n1
    · exact kit_bt (by decide +kernel) h.n2
    · exact kit_bt (by decide +kernel) h.n3
    · exact kit_bt (by decide +kernel) h.n4
    · exact kit_bt (by decide +kernel) h.n5
/-- .. of all of them -/
structure ExK (K : PySem.W.Frag) (mg : Str → Option Value) (cl : Cl) : Prop where
  at_ : ∀ n ∈ eNames, ∀ a, cl n = some a → mg (Str.ofString n) = some (.ref a)
  ok : ∀ n ∈ eNames, ∀ a, cl n = some a → ExB K a
  own : ∀ n ∈ eNames, n ≠ "Clash" → ∀ a, cl n = some a → PySem.W.excIn K a [.type "ValueError", .type "Exception", .type "BaseException", .type "object"] "ValueError.__new__" = true
  sub : ∀ n ∈ eNames, ∀ a, cl n = some a → ∀ n' ∈ eNames, ∀ a', cl n' = some a' → PySem.W.kitOne K (.ref a) (.ref a') = some (subX n n') ∧ PySem.W.exmOne K (.ref a) (.ref a') = some (subX n n')
theorem subX_self (n : String) : subX n n = true := by simp [subX]
/-- classes by a list -/
def clOf (w : World) (l : List (String × Addr)) : Cl := ⟨fun n => l.lookup n, w⟩
theorem clOf_mem {w : World} {l : List (String × Addr)} {n : String} {a : Addr} (h : clOf w l n = some a) : (n, a) ∈ l := by
  unfold clOf at h
  dsimp only at h
  induction l with
  | nil => cases h
  | cons p l ih =>
    obtain ⟨k, b⟩ := p
    rw [List.lookup_cons] at h
    split at h
    · rename_i e
      have : n = k := by simpa using e
      subst this; cases h
      exact List.mem_cons_self ..
    · exact List.mem_cons_of_mem _ (ih h)
theorem exK_mk {K : PySem.W.Frag} {mg : Str → Option Value} {l : List (String × Addr)} {cl : Cl} (hcl : ∀ n ∈ eNames, ∀ a, cl n = some a → (n, a) ∈ l) (hm : ∀ p ∈ l, mg (Str.ofString p.1) = some (.ref p.2)) (hf : ∀ p ∈ l, ExF K p.2)
    (ho : ∀ p ∈ l, p.1 ≠ "Clash" → PySem.W.excIn K p.2 [.type "ValueError", .type "Exception", .type "BaseException", .type "object"] "ValueError.__new__" = true)
    (hs : ∀ p ∈ l, ∀ q ∈ l, PySem.W.subIn K (.ref p.2) (.ref q.2) = some (subX p.1 q.1)) : ExK K mg cl := by
  refine ⟨fun n hn a h => hm _ (hcl n hn a h), fun n hn a h => (hf _ (hcl n hn a h)).b, fun n hn hc a h => ho _ (hcl n hn a h) hc, fun n hn a h n' hn' a' h' => ?_⟩
  have m1 := hcl n hn a h
  have m2 := hcl n' hn' a' h'
  have f2 := hf _ m2
  have s := hs _ m1 _ m2
  have kc : PySem.W.kitCls K (.ref a) (.ref a') = some (subX n n') := (kit_ref f2.is f2.ty).trans s
  refine ⟨?_, ?_⟩
  · show (if ((Value.ref a == Value.ref a') = true) then some true else PySem.W.kitCls K (.ref a) (.ref a')) = _
    by_cases e : a = a'
    · subst e
      rw [if_pos (by simp)]
      have s1 := hs _ m1 _ m1
      have : some (subX n n') = some (subX n n) := s.symm.trans s1
      rw [this, subX_self]
    · rw [if_neg (by intro z; exact e (by simpa using z))]; exact kc
  · show (if (PySem.W.subIn K (.ref a') (.type "BaseException") == some true) = true then PySem.W.kitCls K (.ref a) (.ref a') else none) = _
    rw [if_pos (by rw [f2.sb]; rfl)]; exact kc
section
variable {X : Cx} {pins : List (Addr × Obj)} {σ : L2.St} {H : Hp} {s : Shared} {a D : Addr} {d : Option Addr}
theorem xd_there {fs : List (Str × V)} (I : Inv X pins σ H s) (h : H D = some (.xd fs)) : ∃ o, s.heap.get? D = some o :=
  have ⟨_, names, _⟩ : ObjOk X.prog X.w H s.heap D (.xd fs) := I.hok D _ h
  (lookIn_ns names).imp fun _ q => q.1
theorem exo_obj (I : Inv X pins σ H s) (e : H a = some (exoH (.ref D) d a)) : ∃ oe : Obj, s.heap.get? a = some oe ∧ oe.cls = .ref D ∧ PySem.W.notCls oe ∧ oe.dict = d := by
  obtain ⟨oe, g, ⟨kind, dict⟩, vs, data⟩ := (show ObjOk X.prog X.w H s.heap a (.ext fun h => ∃ oe : Obj, h.get? a = some oe ∧ Zc (.ref D) d oe ∧ ∃ vs, oe.data = .fields vs) from I.hok a _ e).1
  exact ⟨oe, g, kind, by unfold PySem.W.notCls; rw [data] <;> rfl, dict⟩
theorem exo_inst (I : Inv X pins σ H s) (e : H a = some (exoH (.ref D) d a)) (hd : ∀ dd, d = some dd → ∃ fs, H dd = some (.xd fs)) : ∃ oe od, PySem.W.InstAt s.heap a oe D od := by
  obtain ⟨oe, g, kind, no, dict⟩ := exo_obj I e
  cases d with
  | none => exact ⟨oe, none, g, kind, no, by rw [dict]; trivial⟩
  | some dd =>
    obtain ⟨fs, hf⟩ := hd dd rfl
    obtain ⟨od, there⟩ := xd_there I hf
    exact ⟨oe, some od, g, kind, no, by rw [dict]; exact there⟩
/-- a field of an exception's own dict -/
theorem xd_field {fs : List (Str × V)} {f : Str} {v : V} (I : Inv X pins σ H s) (h : H D = some (.xd fs)) (l : fs.lookup f = some v) : ∃ o u, s.heap.get? D = some o ∧ PySem.W.lookIn f o = some (some u) ∧ RelV v u :=
  have ⟨m, names, vals⟩ : ObjOk X.prog X.w H s.heap D (.xd fs) := I.hok D _ h
  have ⟨o, g, reads⟩ := lookIn_ns names
  have ⟨u, e, r⟩ := RelO.some_of (v := v) (o := m f) (l ▸ vals f)
  ⟨o, u, g, by rw [reads, e], r⟩
/-- an exception, for the kit's rules of isinstance -/
theorem exo_kit (I : Inv X pins σ H s) (e : H a = some (exoH (.ref D) d a)) (hd : ∀ dd, d = some dd → ∃ fs, H dd = some (.xd fs)) (B : ExB X.K D) : ∃ P : Heap → Prop, P s.heap ∧ PySem.W.KitX X.K (.ref a) (.ref D) P :=
  have ⟨_, _, J⟩ := exo_inst I e hd
  ⟨_, J, PySem.W.kitx_exc B.is B.xf.ga B.xf.gg B.xf.exC B.cls B.gs B.tk B.mro⟩
/-- isinstance(e, c), e an exception -/
def rIsX (K : PySem.W.Frag) : List V → Hp → VK → Prop := fun xs H Q => ∃ (a D : Addr) (d : Option Addr) (c : V) (u : Value) (b : Bool), xs = [.ref a, c] ∧ ClsV c u ∧ H a = some (exoH (.ref D) d a) ∧ (∀ dd, d = some dd → ∃ fs, H dd = some (.xd fs)) ∧ ExB K D ∧ PySem.W.kitOne K (.ref D) u = some b ∧ Q (.bl b) H
def rIsXT (K : PySem.W.Frag) : List V → Hp → VK → Prop := fun xs H Q => ∃ (a D tp : Addr) (d : Option Addr) (cs : List V) (us : List Value) (b : Bool), xs = [.ref a, .ref tp] ∧ H tp = some (.tup cs) ∧ Paired ClsV cs us ∧ H a = some (exoH (.ref D) d a) ∧ (∀ dd, d = some dd → ∃ fs, H dd = some (.xd fs)) ∧ ExB K D ∧ PySem.W.kitAny K (.ref D) us = some b ∧ Q (.bl b) H
theorem call_isX : CallR X (.builtin "isinstance") (rIsX X.K) := by
  rintro pins s σ H _ us Q I r ⟨a, D, d, c, u, b, rfl, k, ea, hd, B, e, q⟩
  match us, r with
  | [_, _], .cons ra (.cons rc .nil) =>
    cases ra
    cases k.eq rc
    have ⟨P, J, Z⟩ := exo_kit I ea hd B
    exact PySem.W.kia_one Z I.kIn J e nofun fun tk => ⟨.bl b, H, I.kept (t' := tk) fun _ _ => id, rfl, q⟩
theorem call_isXT : CallR X (.builtin "isinstance") (rIsXT X.K) := by
  rintro pins s σ H _ us Q I r ⟨a, D, tp, d, cs, ws, b, rfl, hT, k, ea, hd, B, e, q⟩
  match us, r with
  | [_, _], .cons ra (.cons rt .nil) =>
    cases ra
    cases rt
    have ⟨_, its, rv, p⟩ : ObjOk X.prog X.w H s.heap tp (.tup cs) := I.hok tp _ hT
    cases ClsV.all k rv
    have ⟨P, J, Z⟩ := exo_kit I ea hd B
    obtain ⟨⟨kind, _, data, _⟩, g, z, n, z2⟩ := p
    cases (show kind = .type "tuple" from z)
    cases (show data = .seq ws.toArray n from z2)
    exact PySem.W.kia_tup Z I.kIn J g e nofun fun tk => ⟨.bl b, H, I.kept (t' := tk) fun _ _ => id, rfl, q⟩
end
/-! ### readings: isinstance -/
def isED (d : D) (ns : List String) (m : Mp) (k : K3) : Prop :=
  (∃ a C dc, d = .ref a ∧ m a = some (.exc C dc) ∧ (∀ dd, dc = some dd → ∃ fs, m dd = some (.xd fs)) ∧ k (.bl (ns.any (subX C))) m) ∨ (d = .non ∧ k (.bl false) m)
theorem mono_isED {d : D} {ns : List String} {m : Mp} {k k' : K3} (hk : ∀ d m, k d m → k' d m) (h : isED d ns m k) : isED d ns m k' := by
  rcases h with ⟨a, C, dc, h1, h2, h3, h4⟩ | ⟨h1, h2⟩
  · exact .inl ⟨a, C, dc, h1, h2, h3, hk _ _ h4⟩
  · exact .inr ⟨h1, hk _ _ h2⟩
def eIsE (A : TE3) (ns : List String) : TE3 := fun s m k x => A s m (fun d m1 => isED d ns m1 k) x
def tAs (vs : List V) : TA := fun _ H Q => Q vs H
/-- the classes that are written as arguments -/
structure QCs (X : Cx) (cl : Cl) (es : List Expr) (ns : List String) : Prop where
  run : ∃ as : List Addr, ns.map cl = as.map some ∧ (∀ n ∈ ns, n ∈ eNames) ∧ PA X es (tAs (as.map V.ref))
theorem cs_nil {X : Cx} {cl : Cl} : QCs X cl [] [] := ⟨⟨[], rfl, fun _ h => (by cases h), PA.imp pa_nil fun σ H Q h => h⟩⟩
theorem cs_cons {X : Cx} {cl : Cl} {n : String} {x : Str} {ns : List String} {es : List Expr} {p : Pos} (EK : ExK X.K X.mg cl) (hx : x = Str.ofString n) (hc : ∃ a, cl n = some a) (hn : n ∈ eNames) (hg : Gl X x) (hdb : (x == ("__debug__" : Str)) = false) (r : QCs X cl es ns)
    (hs : starEach (.Name x p :: es) X.env = (false, eval (.Name x p) X.env) :: starEach es X.env) : QCs X cl (.Name x p :: es) (n :: ns) := by
  obtain ⟨as, h1, h2, h3⟩ := r.run
  obtain ⟨a, e1⟩ := hc
  have e2 := EK.at_ n hn a e1
  refine ⟨⟨a :: as, by simp [e1, h1], fun m hm => ?_, PA.imp (pa_cons (pe_glob hg (hx ▸ e2) (show RelV (.ref a) (.ref a) from rfl) hdb) h3 hs) fun σ H Q h => h⟩⟩
  rcases List.mem_cons.mp hm with rfl | hm
  · exact hn
  · exact h2 m hm
section
variable {X : Cx} {cl : Cl} {W : WX} {a b c e o : Expr} {A B C : TE3} {rest es : List Expr} {R : TA3} {pos p p2 apos cpos : Pos} {n : String} {ns : List String}
theorem kit_none_ve {K : PySem.W.Frag} : PySem.W.kitOne K (.type "NoneType") (.type "ValueError") = some false := kit_ty (by decide +kernel)
/-- isinstance(e, C) -/
theorem q_isx1 {x : Str} (EK : ExK X.K X.mg cl) (hx : x = Str.ofString n) (hc : ∃ a, cl n = some a) (hn : n ∈ eNames) (hgx : Gl X x) (hdx : (x == ("__debug__" : Str)) = false) (hg : Gl X "isinstance") (hm : X.mg "isinstance" = none) (ha : QE X cl W a A)
    (h1 : starEach [a, .Name x p2] X.env = (false, eval a X.env) :: starEach [.Name x p2] X.env) (h2 : starEach [.Name x p2] X.env = (false, eval (.Name x p2) X.env) :: starEach [] X.env) (hpl : (backTo pos (starEach [.Name x p2] X.env)).any (·.1) = false) :
    QE X cl W (.Call (.Name "isinstance" p) [a, .Name x p2] [] pos) (eIsE A [n]) := by
  obtain ⟨ca, e1⟩ := hc
  have e2 := EK.at_ n hn ca e1
  refine ⟨fun s m k k' x x' hk hx q => ha.mono _ _ _ _ _ _ (fun d m1 z => mono_isED hk z) hx q, ?_⟩
  refine PE.imp (pe_callB (call_isX.or call_isi) hg hm (by decide +kernel) (pa_cons ha.run (pa_cons (pe_glob hgx (hx ▸ e2) (show RelV (.ref ca) (.ref ca) from rfl) hdx) pa_nil h2) h1) (by decide) (by decide) h1 hpl) fun σ H Q ⟨s, m, hs, hm, q⟩ => ?_
  refine ⟨s, m, hs, hm, ha.mono _ _ _ _ _ _ (fun d m1 z v H1 r hm1 ee => ?_) (fun _ _ z => z) q⟩
  show rIsX X.K [v, .ref ca] H1 Q ∨ rIsi X.K [v, .ref ca] H1 Q
  rcases z with ⟨ad, Cn, dc, rfl, q1, q2, q3⟩ | ⟨rfl, q1⟩
  · obtain ⟨Ca, hC, hc, hh⟩ := hm1.1 ad _ q1
    have r' : v = .ref ad := r
    refine .inl ⟨ad, Ca, dc, .ref ca, .ref ca, subX Cn n, by rw [r'], .own ca, hh, fun dd hd => ?_, EK.ok Cn hC Ca hc, (EK.sub Cn hC Ca hc n hn ca e1).1, ?_⟩
    · obtain ⟨fs, hf⟩ := q2 dd hd
      obtain ⟨fvs, hf', _⟩ := hm1.1 dd _ hf
      exact ⟨fvs, hf'⟩
    · have : ([n].any (subX Cn)) = subX Cn n := by simp
      rw [this] at q3
      exact q3 _ _ rfl hm1 ee
  · have r' : v = .non := r
    refine .inr ⟨.non, .ref ca, .type "NoneType", .ref ca, false, by rw [r'], .own ca, .base .non, (EK.ok n hn ca e1).non, q1 _ _ rfl hm1 ee⟩
theorem q_isxV (EK : ExK X.K X.mg cl) (hgx : Gl X "ValueError") (hmx : X.mg "ValueError" = none) (hg : Gl X "isinstance") (hm : X.mg "isinstance" = none) (ha : QE X cl W a A)
    (h1 : starEach [a, .Name "ValueError" p2] X.env = (false, eval a X.env) :: starEach [.Name "ValueError" p2] X.env) (h2 : starEach [.Name "ValueError" p2] X.env = (false, eval (.Name "ValueError" p2) X.env) :: starEach [] X.env) (hpl : (backTo pos (starEach [.Name "ValueError" p2] X.env)).any (·.1) = false) :
    QE X cl W (.Call (.Name "isinstance" p) [a, .Name "ValueError" p2] [] pos) (eIsE A ["ValueError"]) := by
  refine ⟨fun s m k k' x x' hk hx q => ha.mono _ _ _ _ _ _ (fun d m1 z => mono_isED hk z) hx q, ?_⟩
  refine PE.imp (pe_callB (call_isX.or call_isi) hg hm (by decide +kernel) (pa_cons ha.run (pa_cons (pe_bltn (v := V.ty "ValueError") hgx hmx PyProof.Rows.Boot.«ValueError» rfl (by decide) (by decide)) pa_nil h2) h1) (by decide) (by decide) h1 hpl) fun σ H Q ⟨s, m, hs, hm, q⟩ => ?_
  refine ⟨s, m, hs, hm, ha.mono _ _ _ _ _ _ (fun d m1 z v H1 r hm1 ee => ?_) (fun _ _ z => z) q⟩
  show rIsX X.K [v, .ty "ValueError"] H1 Q ∨ rIsi X.K [v, .ty "ValueError"] H1 Q
  rcases z with ⟨ad, Cn, dc, rfl, q1, q2, q3⟩ | ⟨rfl, q1⟩
  · obtain ⟨Ca, hC, hc, hh⟩ := hm1.1 ad _ q1
    have r' : v = .ref ad := r
    refine .inl ⟨ad, Ca, dc, .ty "ValueError", .type "ValueError", true, by rw [r'], .ty _, hh, fun dd hd => ?_, EK.ok Cn hC Ca hc, (EK.ok Cn hC Ca hc).ve, ?_⟩
    · obtain ⟨fs, hf⟩ := q2 dd hd
      obtain ⟨fvs, hf', _⟩ := hm1.1 dd _ hf
      exact ⟨fvs, hf'⟩
    · have : (["ValueError"].any (subX Cn)) = true := by simp [subX]
      rw [this] at q3
      exact q3 _ _ rfl hm1 ee
  · have r' : v = .non := r
    refine .inr ⟨.non, .ty "ValueError", .type "NoneType", .type "ValueError", false, by rw [r'], .ty _, .base .non, kit_none_ve, q1 _ _ rfl hm1 ee⟩
theorem kitAny_of {K : PySem.W.Frag} {t : Value} {f : String → Bool} {cl : Cl} : ∀ {ns : List String} {as : List Addr}, ns.map cl = as.map some → (∀ n ∈ ns, ∀ a, cl n = some a → PySem.W.kitOne K t (.ref a) = some (f n)) → PySem.W.kitAny K t (as.map Value.ref) = some (ns.any f)
  | [], [], _, _ => rfl
  | [], _ :: _, h, _ => by simp at h
  | _ :: _, [], h, _ => by simp at h
  | n :: ns, a :: as, h, hf => by
    simp only [List.map_cons, List.cons.injEq] at h
    have e := hf n (List.mem_cons_self ..) a h.1
    have ih := kitAny_of (f := f) h.2 fun m hm => hf m (List.mem_cons_of_mem _ hm)
    rw [List.map_cons, PySem.W.kitAny, e]
    cases q : f n with
    | true => simp [q]
    | false => simp only [List.any_cons, q, Bool.false_or]; exact ih
theorem paired_own : ∀ (as : List Addr), Paired ClsV (as.map V.ref) (as.map Value.ref)
  | [] => .nil
  | a :: as => .cons (.own a) (paired_own as)
/-- isinstance(e, (C1, C2, ..)) -/
theorem q_isxT {k0 : Nat} (EK : ExK X.K X.mg cl) (hg : Gl X "isinstance") (hm : X.mg "isinstance" = none) (ha : QE X cl W a A) (hc : QCs X cl es ns) (hl : ns.length ≤ 1000)
    (h1 : starEach [a, .Tuple es k0 p2] X.env = (false, eval a X.env) :: starEach [.Tuple es k0 p2] X.env) (h2 : starEach [.Tuple es k0 p2] X.env = (false, eval (.Tuple es k0 p2) X.env) :: starEach [] X.env) (hpl : (backTo pos (starEach [.Tuple es k0 p2] X.env)).any (·.1) = false) :
    QE X cl W (.Call (.Name "isinstance" p) [a, .Tuple es k0 p2] [] pos) (eIsE A ns) := by
  obtain ⟨as, c1, c2, c3⟩ := hc.run
  refine ⟨fun s m k k' x x' hk hx q => ha.mono _ _ _ _ _ _ (fun d m1 z => mono_isED hk z) hx q, ?_⟩
  have hlen : ns.length = as.length := by have := congrArg List.length c1; simpa using this
  refine PE.imp (pe_callB (call_isXT.or call_isiT) hg hm (by decide +kernel) (pa_cons ha.run (pa_cons (pe_tup c3) pa_nil h2) h1) (by decide) (by decide) h1 hpl) fun σ H Q ⟨s, m, hs, hm, q⟩ => ?_
  refine ⟨s, m, hs, hm, ha.mono _ _ _ _ _ _ (fun d m1 z v H1 r hm1 ee => ?_) (fun _ _ z => z) q⟩
  show (as.map V.ref).length ≤ sizeLine ∧ ∀ p, H1 p = none → (rIsXT X.K [v, .ref p] (upd H1 p (.tup (as.map V.ref))) Q ∨ rIsiT X.K [v, .ref p] (upd H1 p (.tup (as.map V.ref))) Q)
  refine ⟨?_, fun tp htp => ?_⟩
  · rw [List.length_map, ← hlen]
    exact Nat.le_trans hl (by decide)
  have e2 := Ext.new (o := .tup (as.map V.ref)) htp
  have hm2 := hm1.hid (u := .tup (as.map V.ref)) htp
  rcases z with ⟨ad, Cn, dc, rfl, q1, q2, q3⟩ | ⟨rfl, q1⟩
  · obtain ⟨Ca, hC, hc, hh⟩ := hm2.1 ad _ q1
    have r' : v = .ref ad := r
    refine .inl ⟨ad, Ca, tp, dc, _, _, ns.any (subX Cn), by rw [r'], upd_same, paired_own as, hh, fun dd hd => ?_, EK.ok Cn hC Ca hc, kitAny_of c1 (fun n hn a ha => (EK.sub Cn hC Ca hc n (c2 n hn) a ha).1), ?_⟩
    · obtain ⟨fs, hf⟩ := q2 dd hd
      obtain ⟨fvs, hf', _⟩ := hm2.1 dd _ hf
      exact ⟨fvs, hf'⟩
    · exact q3 _ _ rfl hm2 (ee.trans e2)
  · have r' : v = .non := r
    have : ns.any (fun _ => false) = false := by simp
    refine .inr ⟨.non, tp, _, .type "NoneType", _, false, by rw [r'], upd_same, paired_own as, .base .non, this ▸ kitAny_of c1 (fun n hn a ha => (EK.ok n (c2 n hn) a ha).non), q1 _ _ rfl hm2 (ee.trans e2)⟩
end
end PV

/-! raise, try. -/
namespace PV
open PySem L2 PyProof.Rows
/-- an object that stands untracked, newer than the ground, is tracked from now on -/
theorem inv_adopt {X : Cx} {pins : List (Addr × Obj)} {σ : L2.St} {H : Hp} {s : Shared} {D : Addr} {o : HO} (I : Inv X pins σ H s) (n0 : H D = none) (nL : D ≠ X.env.locals) (nC : ∀ x c, X.env.cells.lookup x = some c → c ≠ D) (nP : ∀ p ∈ X.pn ++ pins, p.1 ≠ D) (nD : X.s_0.heap.get? D = none) (new : ObjOk X.prog X.w (upd H D o) s.heap D o) : Inv X pins σ (upd H D o) s := by
  have other : ∀ {b}, b ≠ D → upd H D o b = H b := fun h => upd_ne h
  have tracked : ∀ {b : Addr} {v : HO}, H b = some v → b ≠ D := fun e z => by rw [z, n0] at e; cases e
  have B := I.base
  refine { ok := I.ok, os := I.os, bare := I.bare, loc := I.loc, cell := I.cell, len := I.len, free := (other (Ne.symm nL)).trans I.free, freeC := fun x c e => (other (nC x c e)).trans (I.freeC x c e), base := ?b, pin := fun p m => ?p, hok := fun b v e => ?h }
  case b =>
    exact { keep := B.keep, slot := B.slot, there := B.there, free := fun b v e n x => (other fun z => by rw [z, nD] at e; cases e).trans (B.free b v e n x), tups := fun b xs e => (other (tracked (B.tups b xs e))).trans (B.tups b xs e),
            frzs := fun b v u e => (other (tracked (B.frzs b v u e))).trans (B.frzs b v u e), tbls := fun b ps e => (B.tbls b ps e).imp fun more q => (other (tracked q)).trans q }
  case p =>
    obtain ⟨q1, q2, q3⟩ := I.pin p m
    exact ⟨q1, (other (nP p m)).trans q2, q3⟩
  case h =>
    by_cases z : b = D
    · subst z
      rw [upd_same] at e
      cases e; exact new
    · rw [other z] at e
      exact (I.hok b v e).stay (fun _ _ _ r => r) (fun c r => (other (tracked r)).trans r) fun c xs r => (other (tracked r)).trans r
/-- an exception a that has landed in the def of X: B the ground beneath it, sI the state without it, h the heap with it -/
structure Landed (X : Cx) (pins : List (Addr × Obj)) (σ : L2.St) (H : Hp) (a : Addr) (cls : Value) (d : Option Addr) (B : Heap) (sI : Shared) (s : Shared) : Prop where
  inv : Inv X pins σ H sI
  ground : ∀ b o, sI.heap.get? b = some o → b ∉ frs X.stack → B.get? b = some o
  slots : sI.heap.UpToSlots s.heap
  fly : HandSPX.FlyingZ B X.stack a (Zc cls d) s.heap
  free : H a = none
  os : s.os = sI.os
  bare : AllBare s.gens
section
variable {X : Cx} {pins : List (Addr × Obj)} {σ : L2.St} {H : Hp} {a : Addr} {cls : Value} {d : Option Addr} {B : Heap} {sI s : Shared}
/-- the state with it -/
theorem Landed.state (L : Landed X pins σ H a cls d B sI s) : Inv X pins σ H s := L.inv.landed L.ground L.fly.1 L.slots L.os L.bare
/-- its object -/
theorem Landed.obj (L : Landed X pins σ H a cls d B sI s) : ∃ oe vs, s.heap.get? a = some oe ∧ Zc cls d oe ∧ oe.data = .fields vs := L.fly.there
/-- it is no frame's -/
theorem Landed.noFrame (L : Landed X pins σ H a cls d B sI s) : a ∉ frs X.stack := fun z => by
  obtain ⟨oe, vs, g, -, e⟩ := L.obj
  obtain ⟨-, o, g', n⟩ := L.fly.2.2.1.mem z
  rw [g] at g'
  exact n vs ((congrArg Obj.data (Option.some.inj g')).symm.trans e)
/-- it is new -/
theorem Landed.notThere (L : Landed X pins σ H a cls d B sI s) : sI.heap.get? a = none := by
  cases q : sI.heap.get? a with
  | none => rfl
  | some o => exact absurd ((L.ground a o q L.noFrame).symm.trans L.fly.2.1) (fun z => nomatch z)
theorem Landed.notAtFirst (L : Landed X pins σ H a cls d B sI s) (hx : X.ex = []) : X.s_0.heap.get? a = none := by
  cases q : X.s_0.heap.get? a with
  | none => rfl
  | some o =>
    obtain ⟨o', q'⟩ := L.inv.base.there a o q (by rw [hx]; exact fun z => nomatch z)
    exact absurd (q'.symm.trans L.notThere) (fun z => nomatch z)
theorem Landed.noPin (L : Landed X pins σ H a cls d B sI s) : ∀ p ∈ X.pn ++ pins, p.1 ≠ a := fun p m z => by
  have q := (L.inv.pin p m).1
  rw [z, L.notThere] at q
  exact nomatch q
/-- more objects beside it -/
theorem Landed.more (L : Landed X pins σ H a cls d B sI s) {h : Heap} (k : ∀ b o, s.heap.get? b = some o → h.get? b = some o) : Landed X pins σ H a cls d B sI { s with heap := h } := by
  obtain ⟨st, na, ff, oe, vs, T, oT, ts, q1, q2, q3, q4, q5, q6, q7, q8⟩ := L.fly
  exact { L with slots := L.slots.trans (Heap.UpToSlots.of_keeps k), fly := ⟨fun b o e => k b o (st b o e), na, ff.of_keeps (fun b o e _ => ⟨o, k b o e, rfl⟩), oe, vs, T, oT, ts, k _ _ q1, q2, q3, q4, q5, q6, k _ _ q7, q8⟩ }
end
section
variable {X : Cx} {pins : List (Addr × Obj)} {σ : L2.St} {H : Hp} {a : Addr} {cls : Value} {d : Option Addr} {B : Heap} {sI s : Shared}
/-- into a suite's context and out of it: the def's own pins are the suite's -/
theorem suite_in (I : Inv X pins σ H s) : Inv (X.suite a (X.pn ++ pins)) [] σ H s := by
  have p := I.pin
  exact { ok := I.ok.suite a _, os := I.os, bare := I.bare, base := I.base, loc := I.loc, cell := I.cell, free := I.free, freeC := I.freeC, hok := I.hok, len := I.len, pin := fun q m => p q (by simpa using m) }
theorem suite_out {σ' : L2.St} {H' : Hp} {s' : Shared} (ok : X.Ok) (I : Inv (X.suite a (X.pn ++ pins)) [] σ' H' s') : Inv X pins σ' H' s' := by
  have p := I.pin
  exact { ok := ok, os := I.os, bare := I.bare, base := I.base, loc := I.loc, cell := I.cell, free := I.free, freeC := I.freeC, hok := I.hok, len := I.len, pin := fun q m => p q (by simpa using m) }
/-- the landed exception, tracked in its suite -/
theorem Landed.tracked (L : Landed X pins σ H a cls d B sI s) (hst : X.stack = X.env :: X.outer) (hef : X.env.frame = some X.env.locals) (hx : X.ex = []) : Inv (X.suite a (X.pn ++ pins)) [] σ (upd H a (exoH cls d a)) s := by
  have I := L.state
  obtain ⟨oe, vs, g, z, e⟩ := L.obj
  have out : ∀ b ∈ frs X.stack, b ≠ a := fun b m q => L.noFrame (q ▸ m)
  have loc : X.env.locals ∈ frs X.stack := by rw [hst]; exact List.mem_filterMap.mpr ⟨X.env, List.mem_cons_self, hef⟩
  refine inv_adopt (suite_in I) L.free (out _ loc).symm (fun y c q w => ?_) (fun p m => L.noPin p (by simpa using m)) (L.notAtFirst hx) ⟨⟨oe, g, z, vs, e⟩, ⟨oe, g⟩, fun h1 h2 q k => ?_⟩
  · obtain ⟨u, ob, q1, q2⟩ := I.cell y c q
    rw [w, g] at q1
    have q1 := Option.some.inj q1
    rw [← q1, e] at q2
    exact nomatch q2
  · obtain ⟨o, q1, q2⟩ := q
    exact ⟨o, k _ q1, q2⟩
end
/-- a row of clauses: where the wish w stands, a landed exception is handled as D asks, or goes on -/
def Clauses (X : Cx) (hs : List ExceptHandler) (w : Ends → WX) : Prop := ∀ (pins : List (Addr × Obj)) (σ : L2.St) (H : Hp) (a : Addr) (cls : Value) (d : Option Addr) (B : Heap) (sI s : Shared) (D : Ends),
  Landed X pins σ H a cls d B sI s → w D cls d σ H → wpAny (model X.prog X.w) X.A (handleBy (.ref a) X.env hs) (SP X pins D) X.xe s
section
variable {X : Cx} {W : WX}
/-- no clause is left: it flies on -/
theorem clauses_none (hst : X.stack = X.env :: X.outer) (hef : X.env.frame = some X.env.locals) (tk : Takes X W) : Clauses X [] fun _ => W := by
  intro pins σ H a cls d B sI s D L w
  refine wpAny_handleBy_nil ?_
  obtain ⟨st, na, ff, oe, vs, T, oT, ts, q1, q2, q3, q4, q5, q6, q7, q8⟩ := id L.fly
  have go : wpAny (model X.prog X.w) X.A (setFlight (.ref a) X.env.frame) (fun _ s' => wpAny (model X.prog X.w) X.A (throw (.ref a) : Sem Flow) (SP X pins D) X.xe s') X.xe s := by
    rw [hef]
    refine HandSPX.setFlight_upZ L.fly fun h held up => wpAny_throw (tk _ _ ?_)
    exact ⟨a, B, sI, pins, σ, H, cls, d, rfl, L.inv, L.ground, L.slots.trans up, .inr (.inr held), L.free, L.os, L.bare, w⟩
  unfold PySem.passOn
  refine wpAny_bind (wpAny_field q1 q3 q4 ?_)
  rw [if_neg (show ¬ ((Value.ref T == .none) = true) by simp)]
  first | exact wpAny_bind go | exact wpAny_bind (wpAny_pure (wpAny_bind go))
/-- a class's name, read where the exception is handled -/
theorem name_read {pins : List (Addr × Obj)} {σ : L2.St} {H : Hp} {a : Addr} {cls : Value} {d : Option Addr} {B : Heap} {sI s : Shared} {n : Str} {c : Value} {p : Pos} {Q E : Value → Shared → Prop} (L : Landed X pins σ H a cls d B sI s) (hst : X.stack = X.env :: X.outer) (hef : X.env.frame = some X.env.locals) (hx : X.ex = [])
    (hn : Names X n c) (q : Q c s) : wpAny (model X.prog X.w) (X.A.mark (some (.ref a))) (eval (.Name n p) X.env) Q E s := by
  have J := L.tracked hst hef hx
  obtain ⟨g, nd, m | ⟨m, v, nn⟩⟩ := hn
  · exact ld_glob J g m q nd
  · exact ld_blt J g m v q nn nd
/-- how a suite's end is the def's -/
theorem suite_end {pins : List (Addr × Obj)} {a : Addr} {D : Ends} {f : Flow} {s : Shared} (ok : X.Ok) (h : SP (X.suite a (X.pn ++ pins)) [] D f s) : SP X pins D f s := by
  cases f with
  | ret u => obtain ⟨v, σ, H, J, r, q⟩ := h; exact ⟨v, σ, H, suite_out ok J, r, q⟩
  | next => obtain ⟨σ, H, J, q⟩ := h; exact ⟨σ, H, suite_out ok J, q⟩
  | brk => obtain ⟨σ, H, J, q⟩ := h; exact ⟨σ, H, suite_out ok J, q⟩
  | cont => obtain ⟨σ, H, J, q⟩ := h; exact ⟨σ, H, suite_out ok J, q⟩
/-- except C: -/
theorem clauses_class {n : Str} {c : Value} {ts : Addr → Value → Option Addr → TS} {b0 : Stmt} {suite : List Stmt} {np hp : Pos} {rest : List ExceptHandler} {w : Ends → WX} (hst : X.stack = X.env :: X.outer) (hef : X.env.frame = some X.env.locals) (hx : X.ex = []) (hn : Names X n c)
    (hsu : ∀ (a : Addr) (cls : Value) (d : Option Addr) (pn : List (Addr × Obj)), PSs (X.suite a pn) (b0 :: suite) (ts a cls d)) (r : Clauses X rest w) :
    Clauses X (.ExceptHandler (some (.Name n np)) none (b0 :: suite) hp :: rest) fun D cls d σ H => ∃ b, PySem.W.exmOne X.K cls c = some b ∧ (b = true → ∀ a, H a = none → ts a cls d D σ (upd H a (exoH cls d a))) ∧ (b = false → w D cls d σ H) := by
  rintro pins σ H a cls d B sI s D L ⟨b, eb, yes, no⟩
  obtain ⟨oe, vs, g, z, e⟩ := L.obj
  have type : PySem.W.Looks (model X.prog X.w) s.heap (typeOf (.ref a)) cls := fun A Q E s' k q => wpAny_typeOf_ref (k _ _ g) (by rw [z.1]; exact q)
  refine wpAny_handleBy_cons (codeAny_handlers_test (name_read L hst hef hx hn ((PySem.W.exm_one (M := model X.prog X.w) L.state.kIn type eb).here ?_))) (fun q => nomatch q)
  cases b with
  | false => exact r pins σ H a cls d B sI s D L (no rfl)
  | true =>
    refine codeAny_handlers_suite (HandSPX.lands_againZ L.fly fun h fl up => ?_)
    have L2 : Landed X pins σ H a cls d B sI { s with heap := h } := { L with slots := L.slots.trans up, fly := fl }
    refine wpAny_mono ((hsu a cls d (X.pn ++ pins)).run [] _ _ _ D (L2.tracked hst hef hx) (yes rfl a L.free)) (fun f s' q => ?_) fun _ _ q => q.elim
    have q := suite_end L.inv.ok q
    cases f <;> exact q
end
/-- ends where the name in slot i is let go -/
def endI (i : Nat) (D : Ends) : Ends := { nx := fun σ H => D.nx (σ.set i none) H, rt := D.rt, bk := fun σ H => D.bk (σ.set i none) H, ct := fun σ H => D.ct (σ.set i none) H }
section
variable {X : Cx} {W : WX}
/-- except C as n: -/
theorem clauses_as {n y : Str} {i : Nat} {c : Value} {ts : Addr → Value → Option Addr → TS} {b0 : Stmt} {suite : List Stmt} {np hp : Pos} {rest : List ExceptHandler} {w : Ends → WX} (hst : X.stack = X.env :: X.outer) (hef : X.env.frame = some X.env.locals) (hx : X.ex = []) (hN : X.N.Nodup) (hi : X.N[i]? = some y) (hy : X.env.kindOf y = some .local) (hn : Names X n c)
    (hsu : ∀ (a : Addr) (cls : Value) (d : Option Addr) (pn : List (Addr × Obj)), PSs (X.suite a pn) (b0 :: suite) (ts a cls d)) (r : Clauses X rest w) :
    Clauses X (.ExceptHandler (some (.Name n np)) (some y) (b0 :: suite) hp :: rest) fun D cls d σ H => ∃ b, PySem.W.exmOne X.K cls c = some b ∧ (b = true → ∀ a, H a = none → ts a cls d (endI i D) (σ.set i (some (.ref a))) (upd H a (exoH cls d a))) ∧ (b = false → w D cls d σ H) := by
  rintro pins σ H a cls d B sI s D L ⟨b, eb, yes, no⟩
  obtain ⟨oe, vs, g, z, e⟩ := L.obj
  have type : PySem.W.Looks (model X.prog X.w) s.heap (typeOf (.ref a)) cls := fun A Q E s' k q => wpAny_typeOf_ref (k _ _ g) (by rw [z.1]; exact q)
  refine wpAny_handleBy_cons (codeAny_handlers_test (name_read L hst hef hx hn ((PySem.W.exm_one (M := model X.prog X.w) L.state.kIn type eb).here ?_))) (fun q => nomatch q)
  cases b with
  | false => exact r pins σ H a cls d B sI s D L (no rfl)
  | true =>
    refine codeAny_handlers_suite_as (HandSPX.lands_againZ L.fly fun h fl up => ?_)
    have Ln : Landed X pins σ H a cls d B sI { s with heap := h } := { L with slots := L.slots.trans up, fly := fl }
    refine store_ok (X := X.suite a (X.pn ++ pins)) (v := V.ref a) (Ln.tracked hst hef hx) hN hi (.inl hy) rfl (fun s5 J5 => ?_) (.inr hy)
    refine wpAny_mono ((hsu a cls d (X.pn ++ pins)).run [] _ _ _ (endI i D) J5 (yes rfl a L.free)) (fun f s' q => ?_) fun _ _ q => q.elim
    have gone : ∀ {σ' : L2.St} {H' : Hp} {R : Shared → Prop}, Inv X pins σ' H' s' → (∀ s7, Inv X pins (σ'.set i none) H' s7 → R s7) → wpAny (model X.prog X.w) X.A (do bindName X.env y .none; unbindBehindTheSuite X.env y hp) (fun _ s7 => R s7) X.xe s' := fun J q => gone_ok J hN hi hy q
    have q := suite_end L.inv.ok q
    cases f with
    | ret u => obtain ⟨v, σ', H', J, rv, k⟩ := q; exact gone J fun s7 J7 => ⟨v, _, H', J7, rv, k⟩
    | next => obtain ⟨σ', H', J, k⟩ := q; exact gone J fun s7 J7 => ⟨_, H', J7, k⟩
    | brk => obtain ⟨σ', H', J, k⟩ := q; exact gone J fun s7 J7 => ⟨_, H', J7, k⟩
    | cont => obtain ⟨σ', H', J, k⟩ := q; exact gone J fun s7 J7 => ⟨_, H', J7, k⟩
/-- except (C1, C2): -/
theorem clauses_two {n1 n2 : Str} {c1 c2 : Value} {ts : Addr → Value → Option Addr → TS} {b0 : Stmt} {suite : List Stmt} {p1 p2 tp hp : Pos} {kk : Nat} {rest : List ExceptHandler} {w : Ends → WX} (hst : X.stack = X.env :: X.outer) (hef : X.env.frame = some X.env.locals) (hx : X.ex = []) (h1 : Names X n1 c1) (h2 : Names X n2 c2)
    (hsu : ∀ (a : Addr) (cls : Value) (d : Option Addr) (pn : List (Addr × Obj)), PSs (X.suite a pn) (b0 :: suite) (ts a cls d)) (r : Clauses X rest w) :
    Clauses X (.ExceptHandler (some (.Tuple [.Name n1 p1, .Name n2 p2] kk tp)) none (b0 :: suite) hp :: rest) fun D cls d σ H => ∃ b, PySem.W.exmAny X.K cls [c1, c2] = some b ∧ (b = true → ∀ a, H a = none → ts a cls d D σ (upd H a (exoH cls d a))) ∧ (b = false → w D cls d σ H) := by
  rintro pins σ H a cls d B sI s D L ⟨b, eb, yes, no⟩
  obtain ⟨oe, vs, g, z, e⟩ := L.obj
  have type : PySem.W.Looks (model X.prog X.w) s.heap (typeOf (.ref a)) cls := fun A Q E s' k q => wpAny_typeOf_ref (k _ _ g) (by rw [z.1]; exact q)
  refine wpAny_handleBy_cons (codeAny_handlers_test (wpAny_Tuple (wpAny_items_cons (name_read L hst hef hx h1 (wpAny_items_cons (name_read L hst hef hx h2 (wpAny_items_nil ⟨by size_fits, ?_⟩))))))) (fun q => nomatch q)
  have up : ∀ b o, s.heap.get? b = some o → (s.heap.push { cls := .type "tuple", data := .seq [c1, c2].toArray }).get? b = some o := fun _ _ => Heap.get?_push_of_some _
  have L5 := L.more up
  refine (PySem.W.exm_tup2 (M := model X.prog X.w) L5.state.kIn (type.keeps up) (Heap.get?_push_size s.heap rfl) eb).here ?_
  generalize s.heap.push { cls := .type "tuple", data := .seq [c1, c2].toArray } = h5 at *
  cases b with
  | false => exact r pins σ H a cls d B sI _ D L5 (no rfl)
  | true =>
    refine codeAny_handlers_suite (HandSPX.lands_againZ L5.fly fun h fl up6 => ?_)
    have L6 : Landed X pins σ H a cls d B sI { s with heap := h } := { L with slots := L5.slots.trans up6, fly := fl }
    refine wpAny_mono ((hsu a cls d (X.pn ++ pins)).run [] _ _ _ D (L6.tracked hst hef hx) (yes rfl a L.free)) (fun f s' q => ?_) fun _ _ q => q.elim
    have q := suite_end L.inv.ok q
    cases f <;> exact q
end
/-- try: the body under the clauses' wish -/
theorem try_clauses {X : Cx} {body : List Stmt} {h0 : ExceptHandler} {hs : List ExceptHandler} {pos : Pos} {tb : WX → TS} {w : Ends → WX} (hst : X.stack = X.env :: X.outer) (hef : X.env.frame = some X.env.locals)
    (hb : ∀ (W : WX) (pn : List (Addr × Obj)) (xe : Value → Shared → Prop), Takes (X.tr pn xe) W → PassesOwn (model X.prog X.w) X.A X.env xe → PSs (X.tr pn xe) body (tb W)) (hc : Clauses X (h0 :: hs) w) : PS X (.Try body (h0 :: hs) [] [] pos) fun D σ H => tb (w D) D σ H := by
  constructor
  intro pins s σ H D I wish
  refine wpAny_Try_except (wpAny_mono ((hb (w D) (X.pn ++ pins) _ ?air PassesOwn.looking).run [] s σ H D (I.toTry _) wish) (fun f s1 q => ?_) fun _ _ q => q)
  case air =>
    rintro u s1 ⟨a, B, sI, pb, σ1, H1, cls, d, rfl, J, nb, up, sky, na, os, ag, wx⟩
    have fr : X.A.frames = some (X.env :: X.outer) := I.ok.frames.trans (congrArg some hst)
    refine Sky.land Zc.steady fr hef (hst ▸ sky) fun h fl up2 => ?_
    exact hc pins σ1 H1 a cls d B sI { s1 with heap := h } D ⟨J.ofTry I.ok, nb, up.trans up2, hst ▸ fl, na, os, ag⟩ wx
  cases f with
  | next => obtain ⟨σ1, H1, J, q⟩ := q; exact wpAny_execs_nil ⟨σ1, H1, J.ofTry I.ok, q⟩
  | ret u => obtain ⟨v, σ1, H1, J, r, q⟩ := q; exact ⟨v, σ1, H1, J.ofTry I.ok, r, q⟩
  | brk => obtain ⟨σ1, H1, J, q⟩ := q; exact ⟨σ1, H1, J.ofTry I.ok, q⟩
  | cont => obtain ⟨σ1, H1, J, q⟩ := q; exact ⟨σ1, H1, J.ofTry I.ok, q⟩
/-! ### readings -/
def endN (sl : Option Nat) (D : N3) : N3 := match sl with
  | none => { D with ex := fun _ => noX }
  | some i => { nx := fun s m => D.nx (s.set i none) m, rt := D.rt, bk := fun s m => D.bk (s.set i none) m, ct := fun s m => D.ct (s.set i none) m, ex := fun _ => noX }
def setN (sl : Option Nat) (s : S3) (a : Addr) : S3 := match sl with
  | none => s
  | some i => s.set i (some (.ref a))
/-- a clause: its class, its name's slot, its suite -/
abbrev Hd3 := String × Option Nat × TS3
def dsp : List Hd3 → N3 → S3 → X3
  | [], D, s, x, m => D.ex s x m
  | h :: r, D, s, x, m => if subX x.cls h.1 = true then ∀ a, m a = none → h.2.2 (endN h.2.1 D) (setN h.2.1 s a) (mset m a (.exc x.cls x.dct)) else dsp r D s x m
def sTry (B : TS3) (hs : List Hd3) : TS3 := fun D s m => B { D with ex := dsp hs D } s m
inductive QH (X : Cx) (cl : Cl) : List ExceptHandler → List Hd3 → Prop
  | nil : QH X cl [] []
  | cons {n : String} {x : Str} {S : TS3} {b₀ : Stmt} {suite : List Stmt} {np pos' : Pos} {hds : List ExceptHandler} {l : List Hd3} (hn : n ∈ eNames) (hcl : ∃ a, cl n = some a) (hx : x = Str.ofString n) (hg : Gl X x) (hdb : (x == ("__debug__" : Str)) = false)
      (hsu : ∀ (a : Addr) (pn : List (Addr × Obj)), QB (X.suite a pn) cl W0 (b₀ :: suite) S) (r : QH X cl hds l) :
      QH X cl (.ExceptHandler (some (.Name x np)) none (b₀ :: suite) pos' :: hds) ((n, none, S) :: l)
  | consAs {n : String} {x y : Str} {i : Nat} {S : TS3} {b₀ : Stmt} {suite : List Stmt} {np pos' : Pos} {hds : List ExceptHandler} {l : List Hd3} (hn : n ∈ eNames) (hcl : ∃ a, cl n = some a) (hx : x = Str.ofString n) (hg : Gl X x) (hdb : (x == ("__debug__" : Str)) = false)
      (hi : X.N[i]? = some y) (hln : X.env.kindOf y = some .local) (hsu : ∀ (a : Addr) (pn : List (Addr × Obj)), QB (X.suite a pn) cl W0 (b₀ :: suite) S) (r : QH X cl hds l) :
      QH X cl (.ExceptHandler (some (.Name x np)) (some y) (b₀ :: suite) pos' :: hds) ((n, some i, S) :: l)
  | consTwo {n1 n2 : String} {x1 x2 : Str} {S : TS3} {b₀ : Stmt} {suite : List Stmt} {p1 p2 tp pos' : Pos} {kk : Nat} {hds : List ExceptHandler} {l : List Hd3} (hn1 : n1 ∈ eNames) (hc1 : ∃ a, cl n1 = some a) (hx1 : x1 = Str.ofString n1) (hg1 : Gl X x1) (hd1 : (x1 == ("__debug__" : Str)) = false)
      (hn2 : n2 ∈ eNames) (hc2 : ∃ a, cl n2 = some a) (hx2 : x2 = Str.ofString n2) (hg2 : Gl X x2) (hd2 : (x2 == ("__debug__" : Str)) = false) (hsu : ∀ (a : Addr) (pn : List (Addr × Obj)), QB (X.suite a pn) cl W0 (b₀ :: suite) S) (r : QH X cl hds l) :
      QH X cl (.ExceptHandler (some (.Tuple [.Name x1 p1, .Name x2 p2] kk tp)) none (b₀ :: suite) pos' :: hds) ((n1, none, S) :: (n2, none, S) :: l)
section
variable {X : Cx} {cl : Cl} {W : WX} {K : PySem.W.Frag}
def endS (sl : Option Nat) (D : Ends) : Ends := match sl with
  | none => D
  | some i => endI i D
theorem endN_le {sl : Option Nat} {H H1 : Hp} (e : Ext H H1) {D : Ends} : N3.Le (endN sl (cN K cl W H D)) (cN K cl W0 H1 (endS sl D)) := by
  cases sl with
  | none => exact ⟨fun _ _ h => cS_ext e h, fun _ _ h => cE_ext e h, fun _ _ h => cS_ext e h, fun _ _ h => cS_ext e h, fun _ _ _ h => h.elim⟩
  | some i => exact ⟨fun s m h σ H3 r a e3 => h _ H3 (r.wipe i) a (e.trans e3), fun _ _ h => cE_ext e h, fun s m h σ H3 r a e3 => h _ H3 (r.wipe i) a (e.trans e3), fun s m h σ H3 r a e3 => h _ H3 (r.wipe i) a (e.trans e3), fun _ _ _ h => h.elim⟩
theorem endN_mono {sl : Option Nat} {D D' : N3} (l : N3.Le D D') : N3.Le (endN sl D) (endN sl D') := by
  cases sl with
  | none => exact ⟨l.nx, l.rt, l.bk, l.ct, fun _ _ _ h => h⟩
  | some i => exact ⟨fun s m h => l.nx _ _ h, l.rt, fun s m h => l.bk _ _ h, fun s m h => l.ct _ _ h, fun _ _ _ h => h⟩
/-- what a reading of the clauses gives the wish -/
def Meets (X : Cx) (cl : Cl) (W : WX) (l3 : List Hd3) (w : Ends → WX) : Prop := ∀ (D : Ends) (H : Hp) (s : S3) (x : Xc) (m : Mp), dsp l3 (cN X.K cl W H D) s x m → ∀ σ c dd H', RepS X.K H' s σ → RepX X.K cl H' x c dd → Ab X.K cl H' m → Ext H H' → w D c dd σ H'
theorem dsp_c {n : String} {sl : Option Nat} {S : TS3} {r : List Hd3} {D : N3} {s : S3} {x : Xc} {m : Mp} (h : dsp ((n, sl, S) :: r) D s x m) :
    (subX x.cls n = true → ∀ a, m a = none → S (endN sl D) (setN sl s a) (mset m a (.exc x.cls x.dct))) ∧ (subX x.cls n = false → dsp r D s x m) := by
  have h : if subX x.cls n = true then ∀ a, m a = none → S (endN sl D) (setN sl s a) (mset m a (.exc x.cls x.dct)) else dsp r D s x m := h
  constructor <;> intro q
  · rwa [if_pos q] at h
  · rwa [if_neg (by rw [q]; decide)] at h
theorem c_dsp {n : String} {sl : Option Nat} {S : TS3} {r : List Hd3} {D : N3} {s : S3} {x : Xc} {m : Mp} (h1 : subX x.cls n = true → ∀ a, m a = none → S (endN sl D) (setN sl s a) (mset m a (.exc x.cls x.dct))) (h2 : subX x.cls n = false → dsp r D s x m) : dsp ((n, sl, S) :: r) D s x m := by
  show if subX x.cls n = true then _ else _
  cases q : subX x.cls n with
  | true => exact h1 q
  | false => exact h2 q
/-- the suite's reading, where its class is met -/
theorem meets_suite {sl : Option Nat} {S : TS3} {D : Ends} {H H' : Hp} {s : S3} {x : Xc} {m : Mp} {σ : L2.St} {c : Value} {dd : Option Addr} (hS : MonoS S) (hs : RepS X.K H' s σ) (rx : RepX X.K cl H' x c dd) (hm : Ab X.K cl H' m) (e : Ext H H') {a : Addr} (ha : H' a = none)
    (h : ∀ a, m a = none → S (endN sl (cN X.K cl W H D)) (setN sl s a) (mset m a (.exc x.cls x.dct))) : upS X.K cl W0 S (endS sl D) (match sl with | none => σ | some i => σ.set i (some (.ref a))) (upd H' a (exoH c dd a)) := by
  obtain ⟨C, hC, hc, rfl, rfl⟩ := id rx
  have en := Ext.new (o := exoH (.ref C) x.dct a) ha
  have hm2 : Ab X.K cl (upd H' a (exoH (.ref C) x.dct a)) (mset m a (.exc x.cls x.dct)) := hm.new ha ⟨C, hC, hc, upd_same⟩
  refine ⟨setN sl s a, _, ?_, hm2, hS _ _ _ _ (endN_le (e.trans en)) (h a (hm.free ha))⟩
  cases sl with
  | none => exact hs.mono en
  | some i => exact (hs.mono en).set (show Rep X.K _ (.ref a) (.ref a) from rfl) i
theorem qh_up (EK : ExK X.K X.mg cl) (hst : X.stack = X.env :: X.outer) (hef : X.env.frame = some X.env.locals) (hx : X.ex = []) (hN : X.N.Nodup) (tk : Takes X W) {hds : List ExceptHandler} {l3 : List Hd3} (h : QH X cl hds l3) : ∃ w, Clauses X hds w ∧ Meets X cl W l3 w := by
  induction h with
  | nil => exact ⟨_, clauses_none hst hef tk, fun D H s x m h σ c dd H' a b c e => h σ _ _ H' a b c e⟩
  | @cons n x S b₀ suite np pos' hds l hn hcl hxn hg hdb hsu r ih =>
    obtain ⟨w, i1, i2⟩ := ih
    obtain ⟨ca, e1⟩ := hcl
    refine ⟨_, clauses_class (ts := fun _ _ _ => upS X.K cl W0 S) hst hef hx ⟨hg, hdb, .inl (hxn ▸ EK.at_ n hn ca e1)⟩ (fun a cls d pn => (hsu a pn).run) i1, fun D H s x m h σ c dd H' hs rx hm e => ?_⟩
    obtain ⟨yes, no⟩ := dsp_c h
    obtain ⟨C, hC, hc, rfl, rfl⟩ := id rx
    exact ⟨_, (EK.sub x.cls hC C hc n hn ca e1).2, fun q a ha => meets_suite (sl := none) (hsu 0 []).mono hs rx hm e ha (yes q), fun q => i2 D H s x m (no q) σ _ _ H' hs rx hm e⟩
  | @consAs n x y i S b₀ suite np pos' hds l hn hcl hxn hg hdb hi hln hsu r ih =>
    obtain ⟨w, i1, i2⟩ := ih
    obtain ⟨ca, e1⟩ := hcl
    refine ⟨_, clauses_as (ts := fun _ _ _ => upS X.K cl W0 S) hst hef hx hN hi hln ⟨hg, hdb, .inl (hxn ▸ EK.at_ n hn ca e1)⟩ (fun a cls d pn => (hsu a pn).run) i1, fun D H s x m h σ c dd H' hs rx hm e => ?_⟩
    obtain ⟨yes, no⟩ := dsp_c h
    obtain ⟨C, hC, hc, rfl, rfl⟩ := id rx
    exact ⟨_, (EK.sub x.cls hC C hc n hn ca e1).2, fun q a ha => meets_suite (sl := some i) (hsu 0 []).mono hs rx hm e ha (yes q), fun q => i2 D H s x m (no q) σ _ _ H' hs rx hm e⟩
  | @consTwo n1 n2 x1 x2 S b₀ suite p1 p2 tp pos' kk hds l hn1 hc1 hx1 hg1 hd1 hn2 hc2 hx2 hg2 hd2 hsu r ih =>
    obtain ⟨w, i1, i2⟩ := ih
    obtain ⟨a1, e1⟩ := hc1
    obtain ⟨a2, e2⟩ := hc2
    refine ⟨_, clauses_two (ts := fun _ _ _ => upS X.K cl W0 S) hst hef hx ⟨hg1, hd1, .inl (hx1 ▸ EK.at_ n1 hn1 a1 e1)⟩ ⟨hg2, hd2, .inl (hx2 ▸ EK.at_ n2 hn2 a2 e2)⟩ (fun a cls d pn => (hsu a pn).run) i1, fun D H s x m h σ c dd H' hs rx hm e => ?_⟩
    obtain ⟨yes1, no1⟩ := dsp_c h
    obtain ⟨C, hC, hc, rfl, rfl⟩ := id rx
    have f1 := (EK.sub x.cls hC C hc n1 hn1 a1 e1).2
    have f2 := (EK.sub x.cls hC C hc n2 hn2 a2 e2).2
    refine ⟨subX x.cls n1 || (subX x.cls n2 || false), by simp only [PySem.W.exmAny, f1, f2], fun q a ha => ?_, fun q => ?_⟩ <;> cases q1 : subX x.cls n1 <;> cases q2 : subX x.cls n2 <;> rw [q1, q2] at q <;> first | cases q | skip
    · exact meets_suite (sl := none) (hsu 0 []).mono hs rx hm e ha ((dsp_c (no1 q1)).1 q2)
    · exact meets_suite (sl := none) (hsu 0 []).mono hs rx hm e ha (yes1 q1)
    · exact meets_suite (sl := none) (hsu 0 []).mono hs rx hm e ha (yes1 q1)
    · exact i2 D H s x m ((dsp_c (no1 q1)).2 q2) σ _ _ H' hs rx hm e
theorem mono_dsp {hds : List ExceptHandler} {l3 : List Hd3} (h : QH X cl hds l3) {D D' : N3} (l : N3.Le D D') : ∀ s x m, dsp l3 D s x m → dsp l3 D' s x m := by
  induction h with
  | nil => exact l.ex
  | cons hn hcl hx hg hdb hsu r ih => exact fun s x m h => c_dsp (fun q a ha => (hsu a []).mono _ _ _ _ (endN_mono l) ((dsp_c h).1 q a ha)) fun q => ih s x m ((dsp_c h).2 q)
  | consAs hn hcl hx hg hdb hi hln hsu r ih => exact fun s x m h => c_dsp (fun q a ha => (hsu a []).mono _ _ _ _ (endN_mono l) ((dsp_c h).1 q a ha)) fun q => ih s x m ((dsp_c h).2 q)
  | consTwo hn1 hc1 hx1 hg1 hd1 hn2 hc2 hx2 hg2 hd2 hsu r ih =>
    exact fun s x m h => c_dsp (fun q a ha => (hsu a []).mono _ _ _ _ (endN_mono l) ((dsp_c h).1 q a ha)) fun q => c_dsp (fun q2 a ha => (hsu a []).mono _ _ _ _ (endN_mono l) ((dsp_c ((dsp_c h).2 q)).1 q2 a ha)) fun q2 => ih s x m ((dsp_c ((dsp_c h).2 q)).2 q2)
theorem qs_try {body : List Stmt} {h₀ : ExceptHandler} {hds : List ExceptHandler} {l3 : List Hd3} {pos : Pos} {B : TS3} (EK : ExK X.K X.mg cl) (hs : X.stack = X.env :: X.outer) (hf : X.env.frame = some X.env.locals) (hex : X.ex = []) (hN : X.N.Nodup) (tk : Takes X W) (pw : PassesOwn (model X.prog X.w) X.A X.env X.xe)
    (hb : ∀ (W : WX) (pn : List (Addr × Obj)) (xe : Value → Shared → Prop), Takes (X.tr pn xe) W → PassesOwn (model X.prog X.w) X.A X.env xe → QB (X.tr pn xe) cl W body B) (hh : QH X cl (h₀ :: hds) l3) : QS X cl W (.Try body (h₀ :: hds) [] [] pos) (sTry B l3) := by
  obtain ⟨w, k1, k2⟩ := qh_up EK hs hf hex hN tk hh
  have mB : MonoS B := (hb (fun _ _ _ _ => False) X.pn X.xe takes_none5 pw).mono
  refine ⟨fun s m D D' le q => mB s m { D with ex := dsp l3 D } { D' with ex := dsp l3 D' } ⟨le.nx, le.rt, le.bk, le.ct, mono_dsp hh le⟩ q, ?_⟩
  refine PS.imp (try_clauses (tb := fun W => upS X.K cl W B) hs hf (fun W pn xe t p => (hb W pn xe t p).run) k1) fun D σ H ⟨s, m, h1, h2, q⟩ => ⟨s, m, h1, h2, ?_⟩
  exact mB s m { (cN X.K cl W H D) with ex := dsp l3 (cN X.K cl W H D) } (cN X.K cl (w D) H D) ⟨fun _ _ h => h, fun _ _ h => h, fun _ _ h => h, fun _ _ h => h, fun s x m h σ c dd H' a b e f => k2 D H s x m h σ c dd H' a b e f⟩ q
/-! ### raise -/
def sRs (n : String) : TS3 := fun D s m => D.ex s ⟨n, none⟩ m
/-! ### raise of an exception without fields -/
theorem qs_raise {n : String} {x msg : Str} {j : Nat} {p p2 p3 pos : Pos} (EK : ExK X.K X.mg cl) (tk : Takes X W) (hc : X.calm = true) (hn : n ∈ eNames) (hcl : ∃ a, cl n = some a) (ho : n ≠ "Clash") (hx : x = Str.ofString n) (hg : Gl X x) (hdb : (x == ("__debug__" : Str)) = false) :
    QS X cl W (.Raise (some (.Call (.Name x p) [.Constant (.str msg) j p2] [] p3)) none pos) (sRs n) := by
  obtain ⟨ca, e1⟩ := hcl
  have e2 := EK.at_ n hn ca e1
  have B := EK.ok n hn ca e1
  refine ⟨fun s m D D' le q => le.ex _ _ _ q, ?_⟩
  refine PS.imp (ps_raise hc tk (pmk_own PySem.F.excBase_ValueError (EK.own n hn ho ca e1) (hx ▸ e2) B.kp (raises_own B.xf.exC B.ty) hg hdb)) fun D σ H ⟨s, m, h1, h2, q⟩ => ?_
  exact q σ _ _ H h1 ⟨ca, hn, e1, rfl, rfl⟩ h2 (Ext.refl H)
end
end PV

/-! Things as texts. -/
namespace PV
open PySem L2 PyProof.Rows
open TL (numL numL_lt numL_step numL_digits numL_ne numL_free numL_val numL_inj numL_len)
/-- the signs of a whole number -/
def intL (i : Int) : List Nat := if i < 0 then 45 :: numL i.natAbs else numL i.natAbs
theorem ofS_app (a b : String) : Str.ofString (a ++ b) = Str.ofString a ++ Str.ofString b := by
  refine TL.ext_tl ?_
  rw [TL.tl_append, TL.tl_ofString, TL.tl_ofString, TL.tl_ofString, String.toList_append, List.map_append]
theorem str_int (i : Int) : (Str.ofString (toString i)).cps.toList = intL i := by
  unfold intL
  cases i with
  | ofNat n =>
    rw [if_neg (by simp)]
    exact TL.tl_num n
  | negSucc n =>
    rw [if_pos (Int.negSucc_lt_zero n)]
    have e : toString (Int.negSucc n) = "-" ++ toString ((n + 1 : Nat) : Int) := rfl
    rw [e, ofS_app]
    show TL.tl (Str.ofString "-" ++ Str.ofString (toString ((n + 1 : Nat) : Int))) = _
    rw [TL.tl_append, TL.tl_num]
    rfl
theorem intL_free {i : Int} {s : Nat} (h : (s < 48 ∨ 57 < s) ∧ s ≠ 45) : s ∉ intL i := by
  unfold intL
  split
  · intro q
    rcases List.mem_cons.mp q with q | q
    · exact h.2 q
    · exact numL_free h.1 q
  · exact numL_free h.1
theorem intL_nat (n : Nat) : intL (n : Int) = numL n := by
  unfold intL
  rw [if_neg (by omega)]
  rfl
theorem numL_no45 {n : Nat} {l : List Nat} (h : numL n = 45 :: l) : False := by
  have := numL_digits n 45 (by rw [h]; exact List.mem_cons_self ..)
  omega
theorem intL_inj {i j : Int} (h : intL i = intL j) : i = j := by
  unfold intL at h
  split at h <;> split at h
  · have := numL_inj (List.cons.inj h).2; omega
  · exact (numL_no45 h.symm).elim
  · exact (numL_no45 h).elim
  · have := numL_inj h; omega
mutual
/-- the text that writes a thing -/
def writeD : D → List Nat
  | .non => [111]
  | .int i => 110 :: (intL i ++ [59])
  | .str z => 116 :: (numL z.cps.toList.length ++ 58 :: z.cps.toList)
  | .tup l => 40 :: (writesD l ++ [41])
  | .bl _ => [111] | .ref _ => [111] | .ty _ => [111]
def writesD : List D → List Nat
  | [] => []
  | d :: l => writeD d ++ writesD l
end
theorem writesD_app {l r : List D} : writesD (l ++ r) = writesD l ++ writesD r := by
  induction l with
  | nil => rfl
  | cons d l ih => simp [writesD, ih]
theorem write_head (d : D) : ∃ c t, writeD d = c :: t ∧ c ≠ 41 := by
  cases d <;> exact ⟨_, _, by unfold writeD; rfl, by decide⟩
theorem cut_at {x : Nat} : ∀ {A B r r' : List Nat}, x ∉ A → x ∉ B → A ++ x :: r = B ++ x :: r' → A = B ∧ r = r'
  | [], [], _, _, _, _, h => ⟨rfl, (List.cons.inj h).2⟩
  | [], b :: B, _, _, _, hb, h => absurd (show x ∈ b :: B by rw [(List.cons.inj h).1]; exact List.mem_cons_self ..) hb
  | a :: A, [], _, _, ha, _, h => absurd (show x ∈ a :: A by rw [← (List.cons.inj h).1]; exact List.mem_cons_self ..) ha
  | a :: A, b :: B, _, _, ha, hb, h => by
    obtain ⟨e, h⟩ := List.cons.inj h
    obtain ⟨e2, e3⟩ := cut_at (fun z => ha (List.mem_cons_of_mem _ z)) (fun z => hb (List.mem_cons_of_mem _ z)) h
    exact ⟨by rw [e, e2], e3⟩
theorem writes_uniq {n : Nat} (ih : ∀ {a b : D} {r r' : List Nat}, Fine n a → Fine n b → writeD a ++ r = writeD b ++ r' → a = b ∧ r = r') : ∀ {l l' : List D} {r r' : List Nat}, (∀ d ∈ l, Fine n d) → (∀ d ∈ l', Fine n d) → writesD l ++ 41 :: r = writesD l' ++ 41 :: r' → l = l' ∧ r = r'
  | [], [], _, _, _, _, h => ⟨rfl, (List.cons.inj h).2⟩
  | [], d :: l', _, _, _, _, h => by
    obtain ⟨c, t, e, ne⟩ := write_head d
    unfold writesD at h
    rw [e] at h
    exact absurd (List.cons.inj h).1.symm ne
  | d :: l, [], _, _, _, _, h => by
    obtain ⟨c, t, e, ne⟩ := write_head d
    unfold writesD at h
    rw [e] at h
    exact absurd (List.cons.inj h).1 ne
  | a :: l, b :: l', _, _, h1, h2, h => by
    unfold writesD at h
    rw [List.append_assoc, List.append_assoc] at h
    obtain ⟨e, h⟩ := ih (h1 a (List.mem_cons_self ..)) (h2 b (List.mem_cons_self ..)) h
    obtain ⟨e2, e3⟩ := writes_uniq ih (fun e he => h1 e (List.mem_cons_of_mem _ he)) (fun e he => h2 e (List.mem_cons_of_mem _ he)) h
    exact ⟨by rw [e, e2], e3⟩
theorem write_flat {n : Nat} {a b : D} {r r' : List Nat} (h1 : Fine n a) (h2 : Fine n b) (ht : ∀ l l', a = .tup l → b = .tup l' → a = b ∧ r = r') (h : writeD a ++ r = writeD b ++ r') : a = b ∧ r = r' := by
  cases a <;> cases b <;> first
    | (cases n <;> exact (show False from h1).elim)
    | (cases n <;> exact (show False from h2).elim)
    | (simp [writeD] at h; done)
    | exact ⟨rfl, (List.cons.inj h).2⟩
    | exact ht _ _ rfl rfl
    | skip
  · rename_i i j
    have h : intL i ++ 59 :: r = intL j ++ 59 :: r' := by simpa [writeD] using h
    obtain ⟨e, e2⟩ := cut_at (intL_free ⟨by decide, by decide⟩) (intL_free ⟨by decide, by decide⟩) h
    exact ⟨by rw [intL_inj e], e2⟩
  · rename_i i j
    have h : numL i.cps.toList.length ++ 58 :: (i.cps.toList ++ r) = numL j.cps.toList.length ++ 58 :: (j.cps.toList ++ r') := by simpa [writeD] using h
    obtain ⟨e, e2⟩ := cut_at (numL_free (by decide)) (numL_free (by decide)) h
    have e := numL_inj e
    obtain ⟨e3, e4⟩ := List.append_inj e2 e
    exact ⟨by rw [PySem.W.str_of_cps e3], e4⟩
theorem write_uniq0 : ∀ {n : Nat} {a b : D} {r r' : List Nat}, Fine n a → Fine n b → writeD a ++ r = writeD b ++ r' → a = b ∧ r = r' := by
  intro n
  induction n with
  | zero => intro a b r r' h1 h2 h; exact write_flat h1 h2 (fun l l' e _ => by subst e; exact (show False from h1).elim) h
  | succ n ih =>
    intro a b r r' h1 h2 h
    refine write_flat h1 h2 (fun l l' e e' => ?_) h
    subst e e'
    have h : writesD l ++ 41 :: r = writesD l' ++ 41 :: r' := by simpa [writeD] using h
    obtain ⟨e, e2⟩ := writes_uniq ih h1.2 h2.2 h
    exact ⟨by rw [e], e2⟩
theorem write_uniq {n k : Nat} {a b : D} {r r' : List Nat} (h1 : Fine n a) (h2 : Fine k b) (h : writeD a ++ r = writeD b ++ r') : a = b ∧ r = r' :=
  write_uniq0 (h1.le (Nat.le_max_left n k)) (h2.le (Nat.le_max_right n k)) h
theorem write_pre {n k : Nat} {a b : D} {w : List Nat} (h1 : Fine n a) (h2 : Fine k b) (p1 : writeD a <+: w) (p2 : writeD b <+: w) : a = b := by
  obtain ⟨r, e⟩ := p1
  obtain ⟨r', e'⟩ := p2
  exact (write_uniq h1 h2 (e.trans e'.symm)).1
/-! ### how long -/
theorem num_len {i : Int} (h : NumOk i) : (intL i).length ≤ 32 := by
  unfold NumOk at h
  have : (numL i.natAbs).length ≤ 31 := numL_len (k := 31) (by decide) (by omega)
  unfold intL
  split
  · simp; omega
  · omega
theorem writes_len {n : Nat} (ih : ∀ d, Fine n d → (writeD d).length ≤ 65 * d.sz) : ∀ {l : List D}, (∀ d ∈ l, Fine n d) → (writesD l).length ≤ 65 * D.szs l
  | [], _ => by simp [writesD]
  | d :: l, h => by
    have h1 := ih d (h d (List.mem_cons_self ..))
    have h2 := writes_len ih fun e he => h e (List.mem_cons_of_mem _ he)
    simp only [writesD, List.length_append, D.szs]
    omega
theorem flat_len {n : Nat} {d : D} (h : Fine n d) (ht : ∀ l, d = .tup l → (writeD d).length ≤ 65 * d.sz) : (writeD d).length ≤ 65 * d.sz := by
  cases d with
  | tup l => exact ht l rfl
  | int i => have := num_len h.num; simp [writeD, D.sz]; omega
  | str z =>
    have h1 := h.txt.1
    have : (numL z.cps.toList.length).length ≤ 2 := numL_len (k := 2) (by decide) (by omega)
    simp [writeD, D.sz] at *; omega
  | _ => simp [writeD, D.sz]
theorem Fine.write_len : ∀ {n : Nat} {d : D}, Fine n d → (writeD d).length ≤ 65 * d.sz := by
  intro n
  induction n with
  | zero => intro d h; exact flat_len h fun l e => by subst e; cases h
  | succ n ih =>
    intro d h
    refine flat_len h fun l e => ?_
    subst e
    have := writes_len (n := n) (fun d hd => ih hd) h.2
    simp only [writeD, D.sz, List.length_cons, List.length_append, List.length_nil]
    omega
/-! ### figures -/
theorem numL_head {n : Nat} {r : List Nat} (h : numL n = 48 :: r) : r = [] := by
  have hd := numL_digits n
  have hv := numL_val n
  rw [h] at hd hv
  by_cases h9 : n < 10
  · rw [numL_lt h9] at h
    exact (List.cons.inj h).2.symm
  · exfalso
    have key : ∀ m, 10 ≤ m → ∃ c t, numL m = c :: t ∧ 49 ≤ c := by
      intro m
      induction m using Nat.strongRecOn with
      | _ m ih =>
        intro hm
        rw [numL_step hm]
        by_cases h1 : 10 ≤ m / 10
        · obtain ⟨c, t, e, hc⟩ := ih (m / 10) (by omega) h1
          exact ⟨c, t ++ [48 + m % 10], by rw [e]; rfl, hc⟩
        · rw [numL_lt (by omega)]
          exact ⟨_, _, rfl, by omega⟩
    obtain ⟨c, t, e, hc⟩ := key n (by omega)
    rw [h] at e
    have := (List.cons.inj e).1
    omega
theorem val_from : ∀ (cs : List Nat) (a : Nat), NumText.AllDigits cs → cs.foldl (fun acc c => acc * 10 + (c - 48)) a < (a + 1) * 10 ^ cs.length
  | [], a, _ => by simp
  | c :: cs, a, h => by
    have d : c - 48 < 10 := by have := h.head; omega
    calc _ < (a * 10 + (c - 48) + 1) * 10 ^ cs.length := val_from cs _ h.tail
      _ ≤ (a + 1) * 10 * 10 ^ cs.length := Nat.mul_le_mul_right _ (by omega)
      _ = (a + 1) * 10 ^ (cs.length + 1) := by rw [Nat.mul_assoc, Nat.pow_succ, Nat.mul_comm 10]
theorem val_lt {cs : List Nat} (h : NumText.AllDigits cs) : NumText.digitsVal cs < 10 ^ cs.length := by
  have q := val_from cs 0 h
  rwa [Nat.zero_add, Nat.one_mul] at q
theorem chars_back {l : List Nat} (h : NumText.AllDigits l) : (l.map Char.ofNat).map Char.toNat = l := by
  rw [List.map_map]
  have : l.map (Char.toNat ∘ Char.ofNat) = l.map id := by
    refine List.map_congr_left fun c hc => ?_
    have := h c hc
    show (Char.ofNat c).toNat = c
    obtain ⟨d, rfl⟩ : ∃ d, c = 48 + d := ⟨c - 48, by omega⟩
    have : ∀ d, d < 10 → (Char.ofNat (48 + d)).toNat = 48 + d := by decide
    exact this d (by omega)
  rw [this, List.map_id]
/-- figures without a nought ahead are those of their number -/
theorem numL_of {cs : List Nat} (h : NumText.AllDigits cs) (hne : cs ≠ []) (h0 : ∀ r, cs = 48 :: r → r = []) : numL (NumText.digitsVal cs) = cs := by
  obtain ⟨c, r, rfl⟩ : ∃ c r, cs = c :: r := by cases cs with
    | nil => exact absurd rfl hne
    | cons c r => exact ⟨c, r, rfl⟩
  have := NumText.toDigits_digitsVal r.length (c :: r) rfl h (by
    by_cases e : c = 48
    · subst e; exact .inl (by rw [h0 r rfl]; rfl)
    · have := h.head; exact .inr ⟨c, r, rfl, by omega⟩)
  unfold numL
  rw [this, chars_back h]
end PV

/-! More steps: exceptions, texts. -/
namespace PV
open PySem L2 PyProof.Rows
section
variable {T : Tb} {L i j : Nat} {s : S3} {m : Mp} {k : K3} {x : X3} {d u v : D} {A B C : TE3} {R : TA3} {nx bk ct : S3 → Mp → Prop} {rt : K3} {ex : S3 → X3} {t t' : TS3} {c c' : TT3} {kb : Bool → Mp → Prop} {P Q : Prop} {p q : Addr} {l r : List D}
theorem x_rs {n : String} (h : ex s ⟨n, none⟩ m) : sRs n ⟨nx, rt, bk, ct, ex⟩ s m := h
theorem x_try {hs : List Hd3} (h : t ⟨nx, rt, bk, ct, dsp hs ⟨nx, rt, bk, ct, ex⟩⟩ s m) : sTry t hs ⟨nx, rt, bk, ct, ex⟩ s m := h
/-- a clause that takes it -/
theorem x_dsY {n : String} {e : Xc} {hs : List Hd3} (h0 : subX e.cls n = true) (h : ∀ a, m a = none → t ⟨nx, rt, bk, ct, fun _ => noX⟩ s (mset m a (.exc e.cls e.dct))) : dsp ((n, none, t) :: hs) ⟨nx, rt, bk, ct, ex⟩ s e m := by
  show if subX e.cls n = true then _ else _
  rw [if_pos h0]; exact h
theorem x_dsYA {n : String} {e : Xc} {hs : List Hd3} (h0 : subX e.cls n = true) (h : ∀ a, m a = none → t ⟨fun s m => nx (s.set i none) m, rt, fun s m => bk (s.set i none) m, fun s m => ct (s.set i none) m, fun _ => noX⟩ (s.set i (some (.ref a))) (mset m a (.exc e.cls e.dct))) :
    dsp ((n, some i, t) :: hs) ⟨nx, rt, bk, ct, ex⟩ s e m := by
  show if subX e.cls n = true then _ else _
  rw [if_pos h0]; exact h
theorem x_dsN {n : String} {o : Option Nat} {e : Xc} {hs : List Hd3} (h0 : subX e.cls n = false) (h : dsp hs ⟨nx, rt, bk, ct, ex⟩ s e m) : dsp ((n, o, t) :: hs) ⟨nx, rt, bk, ct, ex⟩ s e m := by
  show if subX e.cls n = true then _ else _
  rw [if_neg (by rw [h0]; decide)]; exact h
theorem x_ds0 {e : Xc} (h : ex s e m) : dsp [] ⟨nx, rt, bk, ct, ex⟩ s e m := h
theorem x_ise {ns : List String} (h : A s m (fun d m1 => isED d ns m1 k) x) : eIsE A ns s m k x := h
theorem xf_isE {C : String} {dc : Option Addr} {ns : List String} (h1 : m p = some (.exc C dc)) (h2 : ∀ dd, dc = some dd → ∃ fs, m dd = some (.xd fs)) (h : k (.bl (ns.any (subX C))) m) : isED (.ref p) ns m k := .inl ⟨p, C, dc, rfl, h1, h2, h⟩
theorem xf_isE0 {C : String} {ns : List String} (h1 : m p = some (.exc C none)) (h : k (.bl (ns.any (subX C))) m) : isED (.ref p) ns m k := .inl ⟨p, C, none, rfl, h1, fun _ e => (by cases e), h⟩
theorem xf_isEN {ns : List String} (h : k (.bl false) m) : isED .non ns m k := .inr ⟨rfl, h⟩
theorem xf_join {z : Str} {ys : List Str} (h1 : RL m p (ys.map D.str)) (h0 : (ys.map (·.length)).sum + ys.length * z.length ≤ 1000000) (h : k (.str (Txt.join z ys)) m) : fJoin (.str z) [.ref p] m k :=
  ⟨z, ys, rfl, .inl ⟨p, rfl, h1⟩, Nat.le_trans h0 (by decide), h⟩
theorem xf_inS {z : Str} {c : Nat} (h : k (.bl (decide (c ∈ z.cps.toList))) m) : fIn false (.str ⟨#[c]⟩) (.str z) m k := .inr (.inl ⟨_, _, rfl, rfl, by rw [PySem.StrLaws.found_one]; exact h⟩)
theorem xf_ninS {z : Str} {c : Nat} (h : k (.bl (!decide (c ∈ z.cps.toList))) m) : fIn true (.str ⟨#[c]⟩) (.str z) m k := .inr (.inl ⟨_, _, rfl, rfl, by rw [PySem.StrLaws.found_one]; exact h⟩)
end
/-! ### pieces of texts -/
theorem drop_min {α : Type} {l : List α} {a : Nat} : l.drop (min a l.length) = l.drop a := by
  by_cases h : a ≤ l.length
  · rw [Nat.min_eq_left h]
  · rw [Nat.min_eq_right (by omega), List.drop_eq_nil_of_le (Nat.le_refl _), List.drop_eq_nil_of_le (by omega)]
theorem cutS_nat {z : Str} {a b : Nat} : (cutS z (some (a : Int)) (some (b : Int))).cps.toList = (z.cps.toList.drop a).take (b - a) := by
  rw [cutS_list, HT.sIx_nat, HT.sIx_nat, str_len, drop_min]
  by_cases h : a ≤ z.cps.toList.length
  · by_cases h2 : b ≤ z.cps.toList.length
    · rw [Nat.min_eq_left h, Nat.min_eq_left h2]
    · rw [Nat.min_eq_left h, Nat.min_eq_right (by omega)]
      have : (z.cps.toList.drop a).length = z.cps.toList.length - a := List.length_drop ..
      rw [List.take_of_length_le (by omega), List.take_of_length_le (by omega)]
  · have : z.cps.toList.drop a = [] := List.drop_eq_nil_of_le (by omega)
    rw [this]; simp
theorem str_eq {a b : Str} : a = b ↔ a.cps.toList = b.cps.toList := ⟨fun h => by rw [h], fun h => PySem.W.str_of_cps h⟩
/-- the sign at a place -/
theorem sign_at {z : Str} {a c : Nat} : cutS z (some (a : Int)) (some ((a : Int) + 1)) = ⟨#[c]⟩ ↔ z.cps.toList[a]? = some c := by
  rw [show ((a : Int) + 1) = ((a + 1 : Nat) : Int) by omega, str_eq, cutS_nat]
  show (z.cps.toList.drop a).take (a + 1 - a) = [c] ↔ _
  rw [show a + 1 - a = 1 by omega]
  cases e : z.cps.toList[a]? with
  | none =>
    have := List.getElem?_eq_none_iff.mp e
    rw [List.drop_eq_nil_of_le this]; simp
  | some b =>
    obtain ⟨h1, h2⟩ := List.getElem?_eq_some_iff.mp e
    rw [List.drop_eq_getElem_cons h1, h2]; simp
theorem sign_none {z : Str} {a : Nat} (h : z.cps.toList.length ≤ a) {c : Nat} : cutS z (some (a : Int)) (some ((a : Int) + 1)) ≠ ⟨#[c]⟩ := by
  intro q
  rw [sign_at, List.getElem?_eq_none h] at q; cases q
theorem ofS1 (c : Char) : Str.ofString (String.singleton c) = ⟨#[c.toNat]⟩ := by
  refine TL.ext_tl ?_
  rw [TL.tl_ofString, String.toList_singleton]; rfl
theorem drop_get {α : Type} {l : List α} {a : Nat} {c : α} (h : l[a]? = some c) : l.drop a = c :: l.drop (a + 1) := by
  obtain ⟨h1, h2⟩ := List.getElem?_eq_some_iff.mp h
  rw [List.drop_eq_getElem_cons h1, h2]
theorem get_drop {α : Type} {l r : List α} {a : Nat} {c : α} (h : l.drop a = c :: r) : l[a]? = some c := by
  have : (l.drop a)[0]? = some c := by rw [h]; rfl
  rwa [List.getElem?_drop, Nat.add_zero] at this
theorem pre_drop {α : Type} {w p r : List α} {a : Nat} (h : p ++ r = w.drop a) : w.drop (a + p.length) = r := by
  rw [← List.drop_drop, ← h, List.drop_left]
theorem pre_le {α : Type} {w p r : List α} {a : Nat} (ha : a ≤ w.length) (h : p ++ r = w.drop a) : a + p.length ≤ w.length := by
  have := congrArg List.length h
  rw [List.length_append, List.length_drop] at this
  omega
theorem atI_of_nat {α : Type} {l : List α} {n : Nat} (h : n < l.length) : atI l (n : Int) = l[n]? := by
  unfold atI ixN
  rw [if_pos (by omega), if_pos (by omega)]
  rfl
open Classical in
theorem xf_eqR {n : Nat} {a : D} {m : Mp} {k : K3} (h1 : Fine n a) (hn : n ≤ 64) (h : k (.bl true) m) : fEq a a m k := xf_eqF h1 h1 hn (by rw [decide_eq_true rfl]; exact h)
end PV

/-! Dicts by what they hold; seals reckoned on. -/
namespace PV
open PySem L2 PyProof.Rows
section
variable {κ : Type} [DecidableEq κ]
theorem getD_app {l r : List (κ × D)} {k : κ} : getD (l ++ r) k = (getD l k).or (getD r k) := by
  induction l with
  | nil => rfl
  | cons p l ih =>
    by_cases e : p.1 = k
    · rw [List.cons_append, getD_pos e, getD_pos e]; rfl
    · rw [List.cons_append, getD_neg e, getD_neg e, ih]
theorem getD_none {l : List (κ × D)} {k : κ} : getD l k = none ↔ (l.any fun kv => decide (kv.1 = k)) = false := by
  induction l with
  | nil => simp [getD_nil]
  | cons p l ih =>
    by_cases e : p.1 = k
    · rw [getD_pos e]; simp [e]
    · rw [getD_neg e, ih]; simp [e]
theorem getD_map {l : List (κ × D)} {k k' : κ} {v : D} : getD (l.map fun kv => if kv.1 = k then (kv.1, v) else kv) k' = if k' = k then (getD l k).map (fun _ => v) else getD l k' := by
  induction l with
  | nil => simp [getD_nil]
  | cons p l ih =>
    rw [List.map_cons]
    by_cases e : p.1 = k
    · rw [if_pos e]
      by_cases h : p.1 = k'
      · have hk : k' = k := h.symm.trans e
        rw [getD_pos (p := (p.1, v)) h, if_pos hk, getD_pos e]; rfl
      · rw [getD_neg (p := (p.1, v)) h, ih]
        have hk : ¬ k' = k := fun z => h (e.trans z.symm)
        rw [if_neg hk, if_neg hk, getD_neg h]
    · rw [if_neg e]
      by_cases h : p.1 = k'
      · have hk : ¬ k' = k := fun z => e (h.trans z)
        rw [getD_pos h, if_neg hk, getD_pos h]
      · rw [getD_neg h, ih]
        by_cases hk : k' = k
        · rw [if_pos hk, if_pos hk, getD_neg e]
        · rw [if_neg hk, if_neg hk, getD_neg h]
theorem getD_put {l : List (κ × D)} {k k' : κ} {v : D} : getD (putD l k v) k' = if k' = k then some v else getD l k' := by
  unfold putD
  by_cases h : (l.any fun kv => decide (kv.1 = k)) = true
  · rw [if_pos h, getD_map]
    by_cases hk : k' = k
    · rw [if_pos hk, if_pos hk]
      cases e : getD l k with
      | none => rw [getD_none.mp e] at h; cases h
      | some d => rfl
    · rw [if_neg hk, if_neg hk]
  · rw [if_neg h, getD_app]
    have h' : getD l k = none := getD_none.mpr (by cases q : (l.any fun kv => decide (kv.1 = k)) with
      | true => exact absurd q h
      | false => rfl)
    by_cases hk : k' = k
    · subst hk
      rw [if_pos rfl, h', getD_pos (p := (k', v)) rfl]; rfl
    · rw [if_neg hk, getD_neg (p := (k, v)) (fun z => hk z.symm), getD_nil]
      cases getD l k' <;> rfl
theorem len_put {l : List (κ × D)} {k : κ} {v : D} : (putD l k v).length ≤ l.length + 1 := by
  unfold putD
  split
  · rw [List.length_map]; omega
  · rw [List.length_append]; exact Nat.le_refl _
end
theorem xf_neB {a b : Bool} {m : Mp} {k : K3} (h : k (.bl (!(a == b))) m) : fNe (.bl a) (.bl b) m k := ⟨_, _, .bl a, .bl b, peq_l (Nat.zero_le _), h⟩
theorem xf_dinI0 {p : Addr} {m : Mp} {k : K3} {kvs : List (Key × D)} {n : Int} (h1 : m p = some (.dK kvs) ∨ m p = some (.rdK kvs)) (h : k (.bl (getD kvs (.inl n)).isSome) m) : fIn false (.int n) (.ref p) m k := xf_dinI h1 h
theorem xf_dinI1 {p : Addr} {m : Mp} {k : K3} {kvs : List (Key × D)} {n : Int} (h1 : m p = some (.dK kvs) ∨ m p = some (.rdK kvs)) (h : k (.bl (!(getD kvs (.inl n)).isSome)) m) : fIn true (.int n) (.ref p) m k := xf_dinI h1 h
theorem xf_dinS0 {p : Addr} {m : Mp} {k : K3} {kvs : List (Key × D)} {n : Str} (h1 : m p = some (.dK kvs) ∨ m p = some (.rdK kvs)) (h : k (.bl (getD kvs (.inr n)).isSome) m) : fIn false (.str n) (.ref p) m k := xf_dinS h1 h
theorem xf_dinS1 {p : Addr} {m : Mp} {k : K3} {kvs : List (Key × D)} {n : Str} (h1 : m p = some (.dK kvs) ∨ m p = some (.rdK kvs)) (h : k (.bl (!(getD kvs (.inr n)).isSome)) m) : fIn true (.str n) (.ref p) m k := xf_dinS h1 h
/-! ### seals reckoned on -/
def sB : Int := 1234567890123456789
def sM : Int := 2305843009213693951
theorem sealOn_nil {a : Int} : sealOn a [] = a := rfl
theorem sealOn_cons {a c : Int} {l : List Int} : sealOn a (c :: l) = sealOn ((a * sB + c) % sM) l := rfl
theorem seal_diff : ∀ (l : List Int) (a b : Int), ∃ t, sealOn a l = sealOn b l + (a - b) * sB ^ l.length + sM * t
  | [], a, b => ⟨0, by rw [sealOn_nil, sealOn_nil, List.length_nil, Int.pow_zero]; omega⟩
  | c :: l, a, b => by
    obtain ⟨t, ht⟩ := seal_diff l ((a * sB + c) % sM) ((b * sB + c) % sM)
    rw [sealOn_cons, sealOn_cons, ht, List.length_cons, Int.pow_succ]
    have h1 := Int.mul_ediv_add_emod (a * sB + c) sM
    have h2 := Int.mul_ediv_add_emod (b * sB + c) sM
    generalize (a * sB + c) % sM = x at *
    generalize (b * sB + c) % sM = y at *
    generalize (a * sB + c) / sM = p at *
    generalize (b * sB + c) / sM = q at *
    have e : x - y = (a - b) * sB - sM * (p - q) := by rw [Int.sub_mul, Int.mul_sub]; omega
    refine ⟨t - (p - q) * sB ^ l.length, ?_⟩
    have h5 : ((a - b) * sB - sM * (p - q)) * sB ^ l.length = (a - b) * (sB ^ l.length * sB) - sM * ((p - q) * sB ^ l.length) := by
      rw [Int.sub_mul, Int.mul_assoc, Int.mul_assoc, Int.mul_comm sB]
    rw [e, h5, Int.mul_sub]
    omega
/-- n times by the base -/
def mulOn (a : Int) : Nat → Int
  | 0 => a
  | n + 1 => mulOn a n * sB % sM
theorem mulOn_is {a : Int} (h0 : 0 ≤ a) (h1 : a < sM) (n : Nat) : 0 ≤ mulOn a n ∧ mulOn a n < sM ∧ ∃ t, mulOn a n = a * sB ^ n + sM * t := by
  induction n with
  | zero => exact ⟨h0, h1, 0, by rw [Int.pow_zero]; show a = _; omega⟩
  | succ n ih =>
    obtain ⟨i1, i2, t, i3⟩ := ih
    refine ⟨Int.emod_nonneg _ (by decide), Int.emod_lt_of_pos _ (by decide), t * sB - mulOn a n * sB / sM, ?_⟩
    have h1 := Int.mul_ediv_add_emod (mulOn a n * sB) sM
    have h2 : mulOn a n * sB = a * sB ^ (n + 1) + sM * (t * sB) := by
      conv => lhs; rw [i3, Int.add_mul, Int.mul_assoc, ← Int.pow_succ, Int.mul_assoc]
    show mulOn a n * sB % sM = _
    generalize mulOn a n * sB / sM = q at *
    rw [Int.mul_sub]
    omega
theorem seal_grown {a b : Int} (ha0 : 0 ≤ a) (ha1 : a < sM) (hb0 : 0 ≤ b) (hb1 : b < sM) (l : List Int) : (sealOn a l - mulOn a l.length + mulOn b l.length) % sM = sealOn b l := by
  obtain ⟨_, _, t1, h1⟩ := mulOn_is ha0 ha1 l.length
  obtain ⟨_, _, t2, h2⟩ := mulOn_is hb0 hb1 l.length
  obtain ⟨t3, h3⟩ := seal_diff l a b
  have hn : 0 ≤ sealOn b l ∧ sealOn b l < sM := sealOn_nn hb0 hb1 l
  have e : sealOn a l - mulOn a l.length + mulOn b l.length = sealOn b l + sM * (t3 - t1 + t2) := by
    rw [h1, h2, h3, Int.sub_mul, Int.mul_add, Int.mul_sub]
    omega
  rw [e, Int.add_mul_emod_self_left, Int.emod_eq_of_lt hn.1 hn.2]
theorem codes_snoc {l : List D} {i : Int} : codeD (.tup (l ++ [.int i])) = [4, ((l.length + 1 : Nat) : Int)] ++ (codesD l ++ [2, (i + 1000000000000000000000000000000) / 1000000000000000, (i + 1000000000000000000000000000000) % 1000000000000000]) := by
  simp [codeD, codesD_app, codesD]
theorem seal_snoc {l : List D} {i : Int} : sealOn ((sealOn 7 [4, (l.length : Int)] |> fun h => (sealOn h (codesD l) - mulOn h (codesD l).length + mulOn (sealOn 7 [4, ((l.length + 1 : Nat) : Int)]) (codesD l).length) % sM)) [2, (i + 1000000000000000000000000000000) / 1000000000000000, (i + 1000000000000000000000000000000) % 1000000000000000] + 1 = sealD (.tup (l ++ [.int i])) := by
  have h1 := sealOn_nn (a := 7) (by decide) (by decide) [4, (l.length : Int)]
  have h2 := sealOn_nn (a := 7) (by decide) (by decide) [4, ((l.length + 1 : Nat) : Int)]
  show sealOn ((sealOn (sealOn 7 [4, (l.length : Int)]) (codesD l) - mulOn (sealOn 7 [4, (l.length : Int)]) (codesD l).length + mulOn (sealOn 7 [4, ((l.length + 1 : Nat) : Int)]) (codesD l).length) % sM) _ + 1 = _
  rw [seal_grown h1.1 h1.2 h2.1 h2.2, ← sealOn_app, ← sealOn_app]
  unfold sealD
  rw [codes_snoc]
end PV

/-! More methods. -/
namespace PV
open PySem L2 PyProof.Rows
section
variable {X : Cx} {cl : Cl}
/-- s.find(y, i) -/
def fFind3 (o : D) (ds : List D) (m : Mp) (k : K3) : Prop := ∃ (z y : Str) (i : Int), o = .str z ∧ ds = [.str y, .int i] ∧ k (.int (Txt.find3 z y i)) m
theorem up_find3 : UpM X cl fFind3 (fun x xs H Q => ∃ (a b : Str) (i : Int), x = .str a ∧ xs = [.str b, .int i] ∧ Q (.int (Txt.find3 a b i)) H) := fun H m o v ds vs Q r1 r2 hm ⟨z, y, i, e1, e2, h⟩ => by
  subst e1 e2
  have r' : v = .str z := r1
  subst r'
  obtain ⟨w, w', rfl, rw, rw'⟩ := reps2 r2
  cases rw
  cases rw'
  exact ⟨z, y, i, rfl, rfl, h _ _ rfl hm (Ext.refl H)⟩
theorem mono_find3 : MonoM fFind3 := fun o ds m k k' hk ⟨z, y, i, e1, e2, h⟩ => ⟨z, y, i, e1, e2, hk _ _ h⟩
end
theorem xf_find3 {z y : Str} {i : Int} {m : Mp} {k : K3} (h : k (.int (Txt.find3 z y i)) m) : fFind3 (.str z) [.str y, .int i] m k := ⟨z, y, i, rfl, rfl, h⟩
theorem xf_mulS {z : Str} {n : Int} {m : Mp} {k : K3} (h1 : -1000 ≤ n) (h2 : n ≤ 1000) (h3 : z.cps.toList.length ≤ 1000) (h : k (.str (repS z n.toNat)) m) : fMul (.str z) (.int n) m k := ⟨h1, h2, by rw [str_len]; exact h3, h⟩
theorem repS_list {z : Str} {n : Nat} : (repS z n).cps.toList = (List.replicate n z.cps.toList).flatten := by unfold repS; simp
theorem from_nat {n a : Nat} : PySem.fromIndex n (a : Int) = a := by
  unfold PySem.fromIndex
  rw [if_neg (by omega)]; omega
theorem find3_is {z : Str} {c a : Nat} : (Txt.find3 z ⟨#[c]⟩ (a : Int) = -1 ∧ ∀ j, a ≤ j → z.cps.toList[j]? ≠ some c) ∨ ∃ j : Nat, a ≤ j ∧ Txt.find3 z ⟨#[c]⟩ (a : Int) = (j : Int) ∧ z.cps.toList[j]? = some c ∧ ∀ i, a ≤ i → i < j → z.cps.toList[i]? ≠ some c := by
  have h := PySem.StrLaws.find3_spec z c (a : Int)
  rw [from_nat] at h
  rcases h with ⟨h1, h2⟩ | h
  · refine .inl ⟨h1, fun j hj e => ?_⟩
    have hl := (List.getElem?_eq_some_iff.mp e).1
    exact h2 j hj (by rw [str_len]; exact hl) (PySem.StrLaws.getD_of_getElem? e)
  · obtain ⟨j, h1, h2, h3, h4, h5⟩ := h
    refine .inr ⟨j, h2, h1, PySem.StrLaws.getElem?_of_getD h3 h4, fun i hi hj e => ?_⟩
    exact h5 i hi hj (PySem.StrLaws.getD_of_getElem? e)
theorem xf_isET {p : Addr} {C : String} {ns : List String} {m : Mp} {k : K3} (h1 : m p = some (.exc C none)) (h2 : ns.any (subX C) = true) (h : k (.bl true) m) : isED (.ref p) ns m k := xf_isE0 h1 (by rw [h2]; exact h)
theorem xf_isEF {p : Addr} {C : String} {ns : List String} {m : Mp} {k : K3} (h1 : m p = some (.exc C none)) (h2 : ns.any (subX C) = false) (h : k (.bl false) m) : isED (.ref p) ns m k := xf_isE0 h1 (by rw [h2]; exact h)
end PV

/-! Classes of the program: made, fields, methods. -/
namespace PV
open PySem L2 PyProof.Rows
/-- a field put -/
def putFD (f : Str) (v : D) : List (Str × D) → List (Str × D)
  | [] => [(f, v)]
  | (g, x) :: r => if g = f then (g, v) :: r else (g, x) :: putFD f v r
theorem repk_look {K : PySem.W.Frag} {H : Hp} {f : Str} : ∀ {fs : List (Str × D)} {vs : List (Str × V)}, RepK K H fs vs → (fs.lookup f = none ∧ vs.lookup f = none) ∨ ∃ d v, fs.lookup f = some d ∧ vs.lookup f = some v ∧ Rep K H d v
  | [], _, h => by cases h; exact .inl ⟨rfl, rfl⟩
  | (g, d) :: fs, _, h => by
    obtain ⟨v, r, rfl, h2, h3⟩ := h
    rw [List.lookup_cons, List.lookup_cons]
    cases e : f == g with
    | true => exact .inr ⟨d, v, rfl, rfl, h2⟩
    | false => exact repk_look h3
theorem repk_lookS {K : PySem.W.Frag} {H : Hp} {f : Str} {fs : List (Str × D)} {vs : List (Str × V)} {d : D} (h : RepK K H fs vs) (e : fs.lookup f = some d) : ∃ v, vs.lookup f = some v ∧ Rep K H d v := by
  rcases repk_look (f := f) h with ⟨h1, _⟩ | ⟨d', v, h1, h2, h3⟩
  · rw [h1] at e; cases e
  · rw [h1] at e; cases e; exact ⟨v, h2, h3⟩
theorem repk_lookN {K : PySem.W.Frag} {H : Hp} {f : Str} {fs : List (Str × D)} {vs : List (Str × V)} (h : RepK K H fs vs) (e : fs.lookup f = none) : vs.lookup f = none := by
  rcases repk_look (f := f) h with ⟨_, h1⟩ | ⟨d', v, h1, h2, h3⟩
  · exact h1
  · rw [h1] at e; cases e
theorem repk_putF {K : PySem.W.Frag} {H : Hp} {f : Str} {d : D} {v : V} (q : Rep K H d v) : ∀ {fs : List (Str × D)} {vs : List (Str × V)}, RepK K H fs vs → RepK K H (putFD f d fs) (L2.putF f v vs)
  | [], _, h => by cases h; exact ⟨v, [], rfl, q, rfl⟩
  | (g, x) :: fs, _, h => by
    obtain ⟨w, r, rfl, h2, h3⟩ := h
    unfold putFD L2.putF
    by_cases e : g = f
    · rw [if_pos e, if_pos e]; exact ⟨v, r, rfl, q, h3⟩
    · rw [if_neg e, if_neg e]; exact ⟨w, _, rfl, h2, repk_putF q h3⟩
/-- what stands of the classes: no class of them has an attribute of a field's name -/
structure ClK (K : PySem.W.Frag) (cl : Cl) (fl : List Str) : Prop where
  cls : ∀ C a, C ∉ eNames → cl C = some a → Cls K a
  no : ∀ C a f, C ∉ eNames → cl C = some a → f ∈ fl → NoAttr K a f
section
variable {X : Cx} {cl : Cl} {W : WX} {fl : List Str} {o e a : Expr} {es : List Expr} {A B : TE3} {R : TA3} {pos p apos pos' : Pos} {f m : Str} {T : Tb} {L : Nat}
/-! ### fields -/
def eFld (f : Str) (A : TE3) : TE3 := fun s m k x => A s m (fun d m1 => ∃ a C fs v, d = .ref a ∧ m1 a = some (.ins C fs) ∧ fs.lookup f = some v ∧ k v m1) x
theorem q_fld (CK : ClK X.K cl fl) (hf : f ∈ fl) (ha : QE X cl W o A) (hb : attributeBase o f X.env (eval o X.env) = eval o X.env) : QE X cl W (.Attribute o f pos) (eFld f A) := by
  refine ⟨fun s m k k' x x' hk hx q => ha.mono _ _ _ _ _ _ (fun d m1 ⟨a, C, fs, v, h1, h2, h3, h4⟩ => ⟨a, C, fs, v, h1, h2, h3, hk _ _ h4⟩) hx q, ?_⟩
  refine PE.imp (pe_fld ha.run hb) fun σ H Q ⟨s, m, hs, hm, q⟩ => ⟨s, m, hs, hm, ha.mono _ _ _ _ _ _ (fun d m1 z v H1 r hm1 e1 => ?_) (fun _ _ z => z) q⟩
  obtain ⟨a, C, fs, w, rfl, h2, h3, h4⟩ := z
  have r' : v = .ref a := r
  obtain ⟨Ca, dx, fvs, ⟨hC, hc⟩, hh, hr⟩ := hm1.1 a _ h2
  obtain ⟨v', e3, r3⟩ := repk_lookS hr h3
  exact ⟨a, Ca, dx, fvs, v', r', hh, CK.cls C Ca hC hc, CK.no C Ca f hC hc hf, e3, h4 _ _ r3 hm1 e1⟩
/-- o.f = e -/
def sFldS (f : Str) (O V : TE3) : TS3 := fun D s m => V s m (fun v m1 => O s m1 (fun o m2 => ∃ a C fs, o = .ref a ∧ m2 a = some (.ins C fs) ∧ fs.length < 1000 ∧ D.nx s (mset m2 a (.ins C (putFD f v fs)))) (D.ex s)) (D.ex s)
theorem ext_insD {K : PySem.W.Frag} {H : Hp} {p C dx : Addr} {fs : List (Str × V)} {u : HO} (h : H p = some (.ins C dx fs)) : Ext H (upd H p u) := ext_ins h
theorem qs_fld {O V : TE3} (CK : ClK X.K cl fl) (hf : f ∈ fl) (ho : QE X cl W o O) (hv : QE X cl W e V) (hs : swapsWith e (some (.Attribute o f pos')) pos.line X.env = pure false) : QS X cl W (.Assign [.Attribute o f pos'] e pos) (sFldS f O V) := by
  refine ⟨fun s m D D' l q => hv.mono _ _ _ _ _ _ (fun v m1 z => ho.mono _ _ _ _ _ _ (fun o m2 ⟨a, C, fs, h1, h2, h3, h4⟩ => ⟨a, C, fs, h1, h2, h3, l.nx _ _ h4⟩) (fun _ _ z => l.ex _ _ _ z) z) (fun _ _ z => l.ex _ _ _ z) q, ?_⟩
  refine PS.imp (ps_fld ho.run hv.run hs) fun D σ H ⟨s, m, hs, hm, q⟩ => ?_
  refine ⟨s, m, hs, hm, hv.mono _ _ _ _ _ _ (fun v m1 z y H1 ry hm1 e1 => ?_) (fun _ _ z => ex_cX hs z) q⟩
  refine ⟨s, m1, hs.mono e1, hm1, ho.mono _ _ _ _ _ _ (fun od m2 z2 x H2 rx hm2 e2 => ?_) (fun _ _ z => cX_ext e1 (ex_cX hs z)) z⟩
  obtain ⟨a, C, fs, rfl, h2, h3, h4⟩ := z2
  have rx' : x = .ref a := rx
  obtain ⟨Ca, dx, fvs, ⟨hC, hc⟩, hh, hr⟩ := hm2.1 a _ h2
  refine ⟨a, Ca, dx, fvs, rx', hh, CK.cls C Ca hC hc, CK.no C Ca f hC hc hf, by rw [← hr.length]; exact h3, ?_⟩
  have ex := ext_ins (u := .ins Ca dx (L2.putF f y fvs)) hh
  exact h4 σ _ (hs.mono ((e1.trans e2).trans ex)) (hm2.put ex ⟨Ca, dx, _, ⟨hC, hc⟩, upd_same, (repk_putF (ry.mono e2) hr).mono ex⟩) ((e1.trans e2).trans ex)
/-! ### methods -/
/-- a def's promises at a level, wherever it stands -/
structure KnM (P : Program) (w : World) (K : PySem.W.Frag) (mg : Str → Option Value) (base : Heap) (cl : Cl) (T : Tb) (L : Nat) (i : Nat) (fa : Addr) : Prop where
  kp : PySem.W.keepIn K (.ref fa) = true
  isf : PySem.W.isFn K (.ref fa) = true
  fn : ∀ S, T i S → ∃ fd ps, FnOk P w K mg base (L2.CX P w) L fa fd ps (liftSp K cl S L) ∧ Binds K fd ps []
/-- the method table: of a class and a name the def's number -/
abbrev MT := String → String → Option Nat
structure Mts (P : Program) (w : World) (K : PySem.W.Frag) (mg : Str → Option Value) (base : Heap) (cl : Cl) (T : Tb) (L : Nat) (M : MT) (ns : List String) : Prop where
  at_ : ∀ C a, C ∉ eNames → cl C = some a → ∀ m ∈ ns, ∀ i, M C m = some i → ∃ fa, PySem.W.findIn K (.ref a) (Str.ofString m) = some (some (.ref fa)) ∧ KnM P w K mg base cl T L i fa
def eMeth (T : Tb) (L : Nat) (M : MT) (m : String) (O : TE3) (R : TA3) : TE3 := fun s mm k x => O s mm (fun o m1 => ∃ a C fs i, o = .ref a ∧ m1 a = some (.ins C fs) ∧ fs.lookup (Str.ofString m) = none ∧ M C m = some i ∧ R s m1 (fun ds m2 => callS T L i (.ref a :: ds) m2 k x) x) x
theorem mono_meth {M : MT} {m : String} (ho : MonoE A) (hr : MonoA R) : MonoE (eMeth T L M m A R) := fun s mm k k' x x' hk hx q =>
  ho _ _ _ _ _ _ (fun o m1 ⟨a, C, fs, i, h1, h2, h3, h4, h5⟩ => ⟨a, C, fs, i, h1, h2, h3, h4, hr _ _ _ _ _ _ (fun ds m2 ⟨S, t, al, g1, g2, g3, g4⟩ => ⟨S, t, al, g1, g2, fun d m' z => hk _ _ (g3 d m' z), fun e m' z => hx _ _ (g4 e m' z)⟩) hx h5⟩) hx q
theorem q_meth {M : MT} {n : String} {ns : List String} {pl : Sem Bool} (tk : Takes X W) (CK : ClK X.K cl fl) (MK : Mts X.prog X.w X.K X.mg X.base cl T L M ns) (hr : Room L X.A) (hn : n ∈ ns) (hm : m = Str.ofString n) (ho : QE X cl W o A) (ha : QA X cl W (e :: es) R)
    (hst : starEach (e :: es) X.env = (false, eval e X.env) :: starEach es X.env) (hpl : (backTo pos (starEach es X.env)).any (·.1) = false)
    (ht : eval (.Call (.Attribute o m apos) (e :: es) [] pos) X.env = (do let ov ← eval o X.env; standAt apos.atName; let (f, first) ← holding [ov] (getMethod ov m pl); callWith pos f first (backTo pos (starEach (e :: es) X.env)) (backToKw pos (keywordEach [] X.env)))) :
    QE X cl W (.Call (.Attribute o m apos) (e :: es) [] pos) (eMeth T L M n A R) := by
  subst hm
  refine ⟨mono_meth ho.mono ha.mono, ⟨fun pins s0 σ H Q I h => ?_⟩⟩
  obtain ⟨s, mm, hs, hm, h⟩ := h
  have hO : upE X.K cl W A σ H (fun v H1 => ∃ d m1, Rep X.K H1 d v ∧ Ab X.K cl H1 m1 ∧ Ext H H1 ∧ ∃ a C fs i, d = .ref a ∧ m1 a = some (.ins C fs) ∧ fs.lookup (Str.ofString n) = none ∧ M C n = some i ∧ R s m1 (fun ds m2 => callS T L i (.ref a :: ds) m2 (cE X.K cl H Q) (cX X.K cl W H σ)) (cX X.K cl W H σ)) :=
    ⟨s, mm, hs, hm, ho.mono _ _ _ _ _ _ (fun d m1 z v H1 r hm1 e1 => ⟨d, m1, r, hm1, e1, z⟩) (fun _ _ z => z) h⟩
  refine PySem.W.methodCall_KW (pl := pl) (thn (ho.run.run pins s0 σ H _ I hO) fun u s1 ⟨v, H1, I1, rv, d, m1, r, hm1, e1, a, C, fs, i, hd, h2, h3, h4, h5⟩ => ?_) ht
  subst hd
  have r' : v = .ref a := r
  subst r'
  obtain rfl : u = Value.ref a := rv
  obtain ⟨Ca, dx, fvs, ⟨hC, hc⟩, hh, hrr⟩ := hm1.1 a _ h2
  obtain ⟨fa, hf1, hf2⟩ := MK.at_ C Ca hC hc n hn i h4
  refine getmeth_ok I1 hh (CK.cls C Ca hC hc) ⟨hf1, hf2.isf, hf2.kp⟩ (repk_lookN hrr h3) ?_
  have hA : upA X.K cl W R σ H1 (fun vs H2 => ∃ ds m2, Reps X.K H2 ds vs ∧ Ab X.K cl H2 m2 ∧ Ext H H2 ∧ callS T L i (.ref a :: ds) m2 (cE X.K cl H Q) (cX X.K cl W H σ)) :=
    ⟨s, m1, hs.mono e1, hm1, ha.mono _ _ _ _ _ _ (fun ds m2 z vs H2 r2 hm2 e2 => ⟨ds, m2, r2, hm2, e1.trans e2, z⟩) (fun _ _ z => cX_ext e1 z) h5⟩
  refine PySem.W.callWith_K (first := [.ref a]) (h₀ := X.base) I.ok.mod.kin hf2.kp (thn (ha.run.run pos pins s1 σ H1 _ I1 hA) fun us s2 ⟨vs, H2, I2, r2, ds, m2, q1, hm2, e2, S, t, al, g1, g2, g3, g4⟩ => ⟨I2.kIn, ?_⟩) hst hpl
  obtain ⟨fd, ps, F, hb⟩ := hf2.fn S t
  exact run_fnS (us := .ref a :: us) (vs := .ref a :: vs) F hr hb (passAt tk σ) I2 (.cons rfl r2) ⟨.ref a :: ds, m2, al, ⟨.ref a, vs, rfl, rfl, q1⟩, hm2, g1, g2, fun d m' z => cE_ext e2 (g3 d m' z), fun x m' z c dd H' a' b e => g4 x m' z c dd H' a' b (e2.trans e)⟩
theorem q_meth0 {M : MT} {n : String} {ns : List String} {pl : Sem Bool} (tk : Takes X W) (CK : ClK X.K cl fl) (MK : Mts X.prog X.w X.K X.mg X.base cl T L M ns) (hr : Room L X.A) (hn : n ∈ ns) (hm : m = Str.ofString n) (ho : QE X cl W o A)
    (ht : eval (.Call (.Attribute o m apos) [] [] pos) X.env = (do let ov ← eval o X.env; standAt apos.atName; let (f, first) ← holding [ov] (getMethod ov m pl); callWith pos f first (backTo pos (starEach [] X.env)) (backToKw pos (keywordEach [] X.env)))) :
    QE X cl W (.Call (.Attribute o m apos) [] [] pos) (eMeth T L M n A aNil) := by
  subst hm
  refine ⟨mono_meth ho.mono (qa_nil (X := X) (cl := cl) (W := W)).mono, ⟨fun pins s0 σ H Q I h => ?_⟩⟩
  obtain ⟨s, mm, hs, hm, h⟩ := h
  have hO : upE X.K cl W A σ H (fun v H1 => ∃ d m1, Rep X.K H1 d v ∧ Ab X.K cl H1 m1 ∧ Ext H H1 ∧ ∃ a C fs i, d = .ref a ∧ m1 a = some (.ins C fs) ∧ fs.lookup (Str.ofString n) = none ∧ M C n = some i ∧ aNil s m1 (fun ds m2 => callS T L i (.ref a :: ds) m2 (cE X.K cl H Q) (cX X.K cl W H σ)) (cX X.K cl W H σ)) :=
    ⟨s, mm, hs, hm, ho.mono _ _ _ _ _ _ (fun d m1 z v H1 r hm1 e1 => ⟨d, m1, r, hm1, e1, z⟩) (fun _ _ z => z) h⟩
  refine PySem.W.methodCall_KW (pl := pl) (thn (ho.run.run pins s0 σ H _ I hO) fun u s1 ⟨v, H1, I1, rv, d, m1, r, hm1, e1, a, C, fs, i, hd, h2, h3, h4, h5⟩ => ?_) ht
  subst hd
  have r' : v = .ref a := r
  subst r'
  obtain rfl : u = Value.ref a := rv
  obtain ⟨Ca, dx, fvs, ⟨hC, hc⟩, hh, hrr⟩ := hm1.1 a _ h2
  obtain ⟨fa, hf1, hf2⟩ := MK.at_ C Ca hC hc n hn i h4
  refine getmeth_ok I1 hh (CK.cls C Ca hC hc) ⟨hf1, hf2.isf, hf2.kp⟩ (repk_lookN hrr h3) ?_
  obtain ⟨S, t, al, g1, g2, g3, g4⟩ := h5
  obtain ⟨fd, ps, F, hb⟩ := hf2.fn S t
  exact PySem.W.callWith_K0 (first := [.ref a]) I1.kIn hf2.kp (run_fnS (us := [.ref a]) (vs := [.ref a]) F hr hb (passAt tk σ) I1 (.cons rfl .nil) ⟨[.ref a], m1, al, ⟨.ref a, [], rfl, rfl, rfl⟩, hm1, g1, g2, fun d m' z => cE_ext e1 (g3 d m' z), fun x m' z c dd H' a' b e => g4 x m' z c dd H' a' b (e1.trans e)⟩)
/-! ### a method by its class: C.m(o, ..) -/
structure CMt (P : Program) (w : World) (K : PySem.W.Frag) (mg : Str → Option Value) (base : Heap) (cl : Cl) (T : Tb) (L : Nat) (C m : String) (i : Nat) : Prop where
  at_ : ∃ Ca fa mc, mg (Str.ofString C) = some (.ref Ca) ∧ PySem.W.readsIn K Ca mc = true ∧ PySem.W.specialIn K (.ref Ca) "__getattribute__" = some (some (.builtin "type.__getattribute__")) ∧ PySem.W.findCls K (.ref Ca) mc (Str.ofString m) = some (.val (.ref fa)) ∧
    PySem.W.handedIn (.ref fa) = true ∧ KnM P w K mg base cl T L i fa
theorem q_cmeth {C n : String} {i : Nat} {c : Str} {pl : Sem Bool} (tk : Takes X W) (CM : CMt X.prog X.w X.K X.mg X.base cl T L C n i) (hr : Room L X.A) (hc : c = Str.ofString C) (hm : m = Str.ofString n) (hg : Gl X c) (hdb : (c == ("__debug__" : Str)) = false) (ha : QA X cl W (e :: es) R)
    (hst : starEach (e :: es) X.env = (false, eval e X.env) :: starEach es X.env) (hpl : (backTo pos (starEach es X.env)).any (·.1) = false)
    (ht : eval (.Call (.Attribute (.Name c p) m apos) (e :: es) [] pos) X.env = (do let ov ← eval (.Name c p) X.env; standAt apos.atName; let (f, first) ← holding [ov] (getMethod ov m pl); callWith pos f first (backTo pos (starEach (e :: es) X.env)) (backToKw pos (keywordEach [] X.env)))) :
    QE X cl W (.Call (.Attribute (.Name c p) m apos) (e :: es) [] pos) (eCall T L i R) := by
  subst hm hc
  obtain ⟨Ca, fa, mc, g1, g2, g3, g4, g5, hf⟩ := CM.at_
  refine ⟨mono_call ha.mono, ⟨fun pins s0 σ H Q I h => ?_⟩⟩
  obtain ⟨s, mm, hs, hm, h⟩ := h
  refine PySem.W.methodCall_KW (pl := pl) (ld_glob I hg g1 ?_ hdb) ht
  refine PySem.W.method_cls I.kIn g3 (PySem.W.cls_value I.kIn g2 g4 g5 ?_)
  have hA : ∀ {s1}, Inv X pins σ H s1 → upA X.K cl W R σ H (fun vs H1 => ∃ ds m1, Reps X.K H1 ds vs ∧ Ab X.K cl H1 m1 ∧ Ext H H1 ∧ callS T L i ds m1 (cE X.K cl H Q) (cX X.K cl W H σ)) := fun _ =>
    ⟨s, mm, hs, hm, ha.mono _ _ _ _ _ _ (fun ds m1 z vs H1 r1 hm1 e1 => ⟨ds, m1, r1, hm1, e1, z⟩) (fun _ _ z => z) h⟩
  have J : Inv X pins σ H { s0 with toks := s0.toks + 1 } := I.tok _
  refine PySem.W.callWith_K (h₀ := X.base) I.ok.mod.kin hf.kp (thn (ha.run.run pos pins _ σ H _ J (hA J)) fun us s1 ⟨vs, H1, I1, r, ds, m1, r1, hm1, e1, S, t, al, h1, h2, h3, h4⟩ => ⟨I1.kIn, ?_⟩) hst hpl
  obtain ⟨fd, ps, F, hb⟩ := hf.fn S t
  exact run_fnS F hr hb (passAt tk σ) I1 r ⟨ds, m1, al, r1, hm1, h1, h2, fun d m' z => cE_ext e1 (h3 d m' z), fun x m' z c dd H' a b e => h4 x m' z c dd H' a b (e1.trans e)⟩
/-! ### made: C(..) -/
structure MkC (P : Program) (w : World) (K : PySem.W.Frag) (mg : Str → Option Value) (base : Heap) (cl : Cl) (T : Tb) (L : Nat) (C : String) (i : Nat) (fa : Addr) : Prop where
  at_ : ∃ Ca, C ∉ eNames ∧ cl C = some Ca ∧ mg (Str.ofString C) = some (.ref Ca) ∧ Mk K Ca fa ∧ ∀ j, j < L → KnM P w K mg base cl T j i fa
def eMake (T : Tb) (L i : Nat) (C : String) (R : TA3) : TE3 := fun s m k x => R s m (fun ds m1 => ∀ a, m1 a = none → callS T (L - 1) i (.ref a :: ds) (mset m1 a (.ins C [])) (fun d m2 => d = .non ∧ k (.ref a) m2) x) x
theorem mono_make {C : String} {i : Nat} (hr : MonoA R) : MonoE (eMake T L i C R) := fun s m k k' x x' hk hx h => hr _ _ _ _ _ _ (fun ds m1 z a ha => let ⟨S, t, al, h1, h2, h3, h4⟩ := z a ha; ⟨S, t, al, h1, h2, fun d m' y => let ⟨y1, y2⟩ := h3 d m' y; ⟨y1, hk _ _ y2⟩, fun e m' y => hx _ _ (h4 e m' y)⟩) hx h
/-- the class called: a new instance, its __init__ run; what it raises is wished for at the slots -/
theorem run_makeAt {CXx : CXT} {k : Nat} {fi C : Addr} {fd : FuncData} {ps : List Str} {sp : Sp} {E : XK} {pins : List (Addr × Obj)} {σ : L2.St} {H : Hp} {s : Shared} {Q : VK} {us : List Value} {vs : List V} (M : Mk X.K C fi) (F : FnOk X.prog X.w X.K X.mg X.base CXx k fi fd ps sp)
    (hr : Room (k + 1) X.A) (hb : Binds X.K fd ps []) (hx : PassesAt CXx X σ E) (I : Inv X pins σ H s) (r : Vals vs us)
    (h : ∀ x dx, x = s.heap.objs.size + 1 → H x = none → H dx = none → dx ≠ x → sp (.ref x :: vs) (upd (upd H dx (.own x)) x (.ins C dx [])) (fun v H2 => v = .non ∧ Q (.ref x) H2) E) : wpAny (model X.prog X.w) X.A (call (.ref C) us) (EP X pins σ Q) X.xe s := by
  obtain ⟨n, hn⟩ : ∃ n, n = s.heap.objs.size := ⟨_, rfl⟩
  have q0 := h (n + 1) n (by rw [hn]) (by rw [hn]; exact I.hok.fresh (Nat.le_succ _)) (by rw [hn]; exact I.hok.fresh (Nat.le_refl _)) (Nat.ne_of_lt (Nat.lt_succ_self _))
  subst hn
  have J := Inv.made (C := C) I
  have rr : Vals (V.ref (s.heap.objs.size + 1) :: vs) (Value.ref (s.heap.objs.size + 1) :: us) := .cons rfl r
  have hl : (Value.ref (s.heap.objs.size + 1) :: us).length = ps.length := by rw [← rr.length]; exact F.len _ _ _ _ q0
  have b := hb _ (Value.ref (s.heap.objs.size + 1) :: us) J.kIn (by rw [List.append_nil]; exact hl)
  rw [List.append_nil] at b
  refine wpAny_call (make_map (f := fi) I.kIn M.makes M.init (beq_iff_eq.mp M.fn) (codeAny_mono (F.run _ X.stack _ _ ⟨_, []⟩ _ _ _ E (hr.make C us []) (J.env0.make C us []) b rr q0) fun z s' hz => ?_))
  cases z with
  | error e => exact hx pins _ _ e s' J hz
  | ok fl => cases fl with
    | ret u =>
      obtain ⟨v, H', J3, rv, ev, q3⟩ := J.after hz
      subst ev
      exact ⟨rv, ⟨V.ref (s.heap.objs.size + 1), H', J3, rfl, q3⟩⟩
    | next => cases hz
    | brk => cases hz
    | cont => cases hz
theorem q_make {C : String} {i : Nat} {c : Str} (tk : Takes X W) {fa : Addr} (MC : MkC X.prog X.w X.K X.mg X.base cl T L C i fa) (hr : Room L X.A) (hc : c = Str.ofString C) (hg : Gl X c) (hdb : (c == ("__debug__" : Str)) = false) (ha : QA X cl W (e :: es) R)
    (hst : starEach (e :: es) X.env = (false, eval e X.env) :: starEach es X.env) (hpl : (backTo pos (starEach es X.env)).any (·.1) = false) : QE X cl W (.Call (.Name c p) (e :: es) [] pos) (eMake T L i C R) := by
  subst hc
  obtain ⟨Ca, g0, g1, g2, g3, g4⟩ := MC.at_
  refine ⟨mono_make ha.mono, ⟨fun pins s0 σ H Q I h => ?_⟩⟩
  obtain ⟨s, mm, hs, hm, h⟩ := h
  refine wpAny_Call_Name_kw (ld_glob I hg g2 ?_ hdb)
  have hA : upA X.K cl W R σ H (fun vs H1 => ∃ ds m1, Reps X.K H1 ds vs ∧ Ab X.K cl H1 m1 ∧ Ext H H1 ∧ ∀ a, m1 a = none → callS T (L - 1) i (.ref a :: ds) (mset m1 a (.ins C [])) (fun d m2 => d = .non ∧ cE X.K cl H Q (.ref a) m2) (cX X.K cl W H σ)) :=
    ⟨s, mm, hs, hm, ha.mono _ _ _ _ _ _ (fun ds m1 z vs H1 r1 hm1 e1 => ⟨ds, m1, r1, hm1, e1, z⟩) (fun _ _ z => z) h⟩
  refine PySem.W.callWith_K (h₀ := X.base) I.ok.mod.kin g3.kp (thn (ha.run.run pos pins s0 σ H _ I hA) fun us s1 ⟨vs, H1, I1, r, ds, m1, r1, hm1, e1, z⟩ => ⟨I1.kIn, ?_⟩) hst hpl
  -- which level
  obtain ⟨S, t, al, h1, h2, h3, h4⟩ := z (s1.heap.objs.size + 1) (hm1.free (I1.hok.fresh (Nat.le_succ _)))
  obtain ⟨L', rfl⟩ : ∃ L', L = L' + 1 := ⟨L - 1, by omega⟩
  obtain ⟨fd, ps, F, hb⟩ := (g4 L' (Nat.lt_succ_self _)).fn S t
  refine run_makeAt g3 F hr hb (passAt tk σ) I1 r fun x dx ex nx ndx ne => ?_
  subst ex
  have e2 : Ext H1 (upd H1 dx (.own (s1.heap.objs.size + 1))) := Ext.new ndx
  have nx2 : (upd H1 dx (.own (s1.heap.objs.size + 1))) (s1.heap.objs.size + 1) = none := by rw [upd_ne (Ne.symm ne)]; exact nx
  have e3 : Ext (upd H1 dx (.own (s1.heap.objs.size + 1))) (upd (upd H1 dx (.own (s1.heap.objs.size + 1))) (s1.heap.objs.size + 1) (.ins Ca dx [])) := Ext.new nx2
  have hm3 := (hm1.hid (u := .own (s1.heap.objs.size + 1)) ndx).new (o := .ins C []) (u := .ins Ca dx []) nx2 ⟨Ca, dx, [], ⟨g0, g1⟩, upd_same, rfl⟩
  have e13 := (e1.trans e2).trans e3
  refine ⟨.ref (s1.heap.objs.size + 1) :: ds, _, al, ⟨_, _, rfl, rfl, r1.mono (e2.trans e3)⟩, hm3, h1, h2, fun d m' y v H' rv hm' e' => ?_, fun x m' y c dd H' a b e => h4 x m' y c dd H' a b (e13.trans e)⟩
  obtain ⟨y1, y2⟩ := h3 d m' y
  subst y1
  exact ⟨rv, y2 _ H' rfl hm' (e13.trans e')⟩
theorem q_make0 {C : String} {i : Nat} {c : Str} (tk : Takes X W) {fa : Addr} (MC : MkC X.prog X.w X.K X.mg X.base cl T L C i fa) (hr : Room L X.A) (hc : c = Str.ofString C) (hg : Gl X c) (hdb : (c == ("__debug__" : Str)) = false) : QE X cl W (.Call (.Name c p) [] [] pos) (eMake T L i C aNil) := by
  subst hc
  obtain ⟨Ca, g0, g1, g2, g3, g4⟩ := MC.at_
  refine ⟨mono_make (qa_nil (X := X) (cl := cl) (W := W)).mono, ⟨fun pins s1 σ H1 Q I1 h => ?_⟩⟩
  obtain ⟨s, m1, hs, hm1, z⟩ := h
  refine wpAny_Call_Name_kw (ld_glob I1 hg g2 ?_ hdb)
  obtain ⟨S, t, al, h1, h2, h3, h4⟩ := z (s1.heap.objs.size + 1) (hm1.free (I1.hok.fresh (Nat.le_succ _)))
  obtain ⟨L', rfl⟩ : ∃ L', L = L' + 1 := ⟨L - 1, by omega⟩
  obtain ⟨fd, ps, F, hb⟩ := (g4 L' (Nat.lt_succ_self _)).fn S t
  refine PySem.W.callWith_K0 I1.kIn g3.kp (run_makeAt (us := []) (vs := []) g3 F hr hb (passAt tk σ) I1 .nil fun x dx ex nx ndx ne => ?_)
  subst ex
  have e2 : Ext H1 (upd H1 dx (.own (s1.heap.objs.size + 1))) := Ext.new ndx
  have nx2 : (upd H1 dx (.own (s1.heap.objs.size + 1))) (s1.heap.objs.size + 1) = none := by rw [upd_ne (Ne.symm ne)]; exact nx
  have e3 : Ext (upd H1 dx (.own (s1.heap.objs.size + 1))) (upd (upd H1 dx (.own (s1.heap.objs.size + 1))) (s1.heap.objs.size + 1) (.ins Ca dx [])) := Ext.new nx2
  have hm3 := (hm1.hid (u := .own (s1.heap.objs.size + 1)) ndx).new (o := .ins C []) (u := .ins Ca dx []) nx2 ⟨Ca, dx, [], ⟨g0, g1⟩, upd_same, rfl⟩
  have e13 := e2.trans e3
  refine ⟨[.ref (s1.heap.objs.size + 1)], _, al, ⟨_, _, rfl, rfl, rfl⟩, hm3, h1, h2, fun d m' y v H' rv hm' e' => ?_, fun x m' y c dd H' a b e => h4 x m' y c dd H' a b (e13.trans e)⟩
  obtain ⟨y1, y2⟩ := h3 d m' y
  subst y1
  exact ⟨rv, y2 _ H' rfl hm' (e13.trans e')⟩
end
end PV

/-! Dicts walked under a lock; get, clear, sorted. -/
namespace PV
open PySem L2 PyProof.Rows
/-! ### unlocking: what is read of tuples stays -/
def SqM (K : PySem.W.Frag) (H H' : Hp) : Prop := ∀ a xs, SqT K H a xs → SqT K H' a xs
mutual
theorem Rep.monoQ {K : PySem.W.Frag} {H H' : Hp} (e : SqM K H H') : ∀ {d : D} {v : V}, Rep K H d v → Rep K H' d v
  | .non, _, h => h
  | .bl _, _, h => h
  | .int _, _, h => h
  | .str _, _, h => h
  | .tup l, _, h => by
    obtain ⟨a, vs, e1, e2, e3⟩ := h
    exact ⟨a, vs, e1, e a vs e2, Reps.monoQ e e3⟩
  | .ref _, _, h => h
  | .ty _, _, h => h
theorem Reps.monoQ {K : PySem.W.Frag} {H H' : Hp} (e : SqM K H H') : ∀ {ds : List D} {vs : List V}, Reps K H ds vs → Reps K H' ds vs
  | [], _, h => h
  | d :: ds, _, h => by
    obtain ⟨v, r, e1, e2, e3⟩ := h
    exact ⟨v, r, e1, Rep.monoQ e e2, Reps.monoQ e e3⟩
end
theorem RepK.monoQ {κ : Type} {K : PySem.W.Frag} {H H' : Hp} (e : SqM K H H') : ∀ {ds : List (κ × D)} {vs : List (κ × V)}, RepK K H ds vs → RepK K H' ds vs
  | [], _, h => h
  | (k, d) :: ds, _, h => by
    obtain ⟨v, r, e1, e2, e3⟩ := h
    exact ⟨v, r, e1, e2.monoQ e, RepK.monoQ e e3⟩
theorem RepXs.monoQ {K : PySem.W.Frag} {H H' : Hp} (e : SqM K H H') : ∀ {ds : List (D × D)} {xs : List XEn}, RepXs K H ds xs → RepXs K H' ds xs
  | [], _, h => h
  | (k, d) :: ds, _, h => by
    obtain ⟨x, y, r, e1, e2, e3, e4⟩ := h
    exact ⟨x, y, r, e1, e2.monoQ e, e3.monoQ e, RepXs.monoQ e e4⟩
theorem RepO.monoQ {K : PySem.W.Frag} {cl : Cl} {H H' : Hp} {a : Addr} (e : SqM K H H') (ha : H' a = H a) : ∀ {o : O}, RepO K cl H a o → RepO K cl H' a o
  | .lst l, ⟨vs, h1, h2⟩ => ⟨vs, ha.trans h1, h2.monoQ e⟩
  | .rol l, ⟨o, vs, h1, h2⟩ => ⟨o, vs, ha.trans h1, h2.monoQ e⟩
  | .dK _, ⟨vs, h1, h2⟩ => ⟨vs, ha.trans h1, h2.monoQ e⟩
  | .dT _, ⟨vs, h1, h2⟩ => ⟨vs, ha.trans h1, h2.monoQ e⟩
  | .rdK _, ⟨o, vs, h1, h2⟩ => ⟨o, vs, ha.trans h1, h2.monoQ e⟩
  | .dD _, ⟨xs, h1, h2⟩ => ⟨xs, ha.trans h1, h2.monoQ e⟩
  | .ins _ _, ⟨Ca, dx, vs, h0, h1, h2⟩ => ⟨Ca, dx, vs, h0, ha.trans h1, h2.monoQ e⟩
  | .xd _, ⟨vs, h1, h2⟩ => ⟨vs, ha.trans h1, h2.monoQ e⟩
  | .exc _ _, ⟨Ca, hn, h0, h1⟩ => ⟨Ca, hn, h0, ha.trans h1⟩
theorem RepS.monoQ {K : PySem.W.Frag} {H H' : Hp} {s : S3} {σ : L2.St} (e : SqM K H H') (h : RepS K H s σ) : RepS K H' s σ := ⟨h.1, fun i d q => let ⟨v, h1, h2⟩ := h.2 i d q; ⟨v, h1, h2.monoQ e⟩⟩
section
variable {K : PySem.W.Frag} {cl : Cl} {H H' : Hp} {m : Mp} {d : Addr} {od : Obj} {kvs : List (Key × D)} {kws : List (Key × V)}
theorem sqm_unlock (h : H' d = some (.frz od (.dK kws))) : SqM K H' (upd H' d (.dK kws)) := fun a xs z => by
  rcases z with (z | ⟨o, z⟩) | z
  · exact .inl (.inl (by rw [upd_ne (fun e => by rw [e, h] at z; cases z)]; exact z))
  · exact .inl (.inr ⟨o, by rw [upd_ne (fun e => by rw [e, h] at z; cases z)]; exact z⟩)
  · exact .inr z
theorem ext_unlock (h0 : H d = some (.dK kws)) (e : Ext (upd H d (.frz od (.dK kws))) H') : Ext H (upd H' d (.dK kws)) :=
  ⟨fun a xs z => by
    have ne : a ≠ d := fun q => by rw [q, h0] at z; cases z
    rw [upd_ne ne]; exact e.1 a xs (by rw [upd_ne ne]; exact z),
   fun a o u z => by
    have ne : a ≠ d := fun q => by rw [q, h0] at z; cases z
    rw [upd_ne ne]; exact e.2 a o u (by rw [upd_ne ne]; exact z)⟩
theorem ab_unlock (hm : Ab K cl H' m) (h : H' d = some (.frz od (.dK kws))) (hd : m d = some (.rdK kvs)) : Ab K cl (upd H' d (.dK kws)) (mset m d (.dK kvs)) := ⟨fun a x q => by
  have sq : SqM K H' (upd H' d (.dK kws)) := sqm_unlock h
  by_cases e : a = d
  · subst e
    rw [mset_same] at q
    cases q
    obtain ⟨o, ws, q1, q2⟩ := hm.1 a _ hd
    rw [h] at q1
    cases q1
    exact ⟨kws, upd_same, q2.monoQ sq⟩
  · rw [mset_ne e] at q
    exact (hm.1 a x q).monoQ sq (upd_ne e), hm.2⟩
end
/-- a statement, with a dict locked or not -/
def sLk (t : TS3) : TS3 := fun D s m => t D s m ∨ ∃ d kvs, m d = some (.dK kvs) ∧
  t ⟨fun s' m' => m' d = some (.rdK kvs) ∧ D.nx s' (mset m' d (.dK kvs)), fun v m' => m' d = some (.rdK kvs) ∧ D.rt v (mset m' d (.dK kvs)), fun s' m' => m' d = some (.rdK kvs) ∧ D.bk s' (mset m' d (.dK kvs)), fun s' m' => m' d = some (.rdK kvs) ∧ D.ct s' (mset m' d (.dK kvs)), D.ex⟩ s (mset m d (.rdK kvs))
section
variable {X : Cx} {cl : Cl} {W : WX} {st : Stmt} {S : TS3} {t t' : TS}
theorem ps_or (h : PS X st t) (h' : PS X st t') : PS X st (fun D σ H => t D σ H ∨ t' D σ H) := ⟨fun pins s σ H D I q => q.elim (h.run pins s σ H D I) (h'.run pins s σ H D I)⟩
theorem qs_lk (h : QS X cl W st S) : QS X cl W st (sLk S) := by
  refine ⟨fun s m D D' l q => ?_, ?_⟩
  · rcases q with q | ⟨d, kvs, hd, q⟩
    · exact .inl (h.mono _ _ _ _ l q)
    · refine .inr ⟨d, kvs, hd, h.mono _ _ _ _ ?_ q⟩
      exact ⟨fun _ _ ⟨a, b⟩ => ⟨a, l.nx _ _ b⟩, fun _ _ ⟨a, b⟩ => ⟨a, l.rt _ _ b⟩, fun _ _ ⟨a, b⟩ => ⟨a, l.bk _ _ b⟩, fun _ _ ⟨a, b⟩ => ⟨a, l.ct _ _ b⟩, l.ex⟩
  · refine PS.imp (ps_or h.run (L2.ps_lock h.run)) fun D σ H ⟨s, m, hs, hm, q⟩ => ?_
    rcases q with q | ⟨d, kvs, hd, q⟩
    · exact .inl ⟨s, m, hs, hm, q⟩
    · obtain ⟨kws, e, rk⟩ := hm.1 d _ hd
      refine .inr ⟨d, _, e, trivial, fun od => ?_⟩
      have ex : Ext H (upd H d (.frz od (.dK kws))) := ext_dK e
      have up : ∀ {H' : Hp}, Ext (upd H d (.frz od (.dK kws))) H' → H' d = some (.frz od (.dK kws)) := fun e' => e'.2 _ _ _ upd_same
      refine ⟨s, _, hs.mono ex, hm.put ex (o := .rdK kvs) ⟨od, kws, upd_same, rk.mono ex⟩, h.mono _ _ _ _ ⟨?_, ?_, ?_, ?_, ?_⟩ q⟩
      · exact fun s' m' ⟨a, b⟩ σ' H' hs' hm' e' => ⟨up e', b σ' _ (hs'.monoQ (sqm_unlock (up e'))) (ab_unlock hm' (up e') a) (ext_unlock e e')⟩
      · exact fun v m' ⟨a, b⟩ v' H' hv' hm' e' => ⟨up e', b v' _ (hv'.monoQ (sqm_unlock (up e'))) (ab_unlock hm' (up e') a) (ext_unlock e e')⟩
      · exact fun s' m' ⟨a, b⟩ σ' H' hs' hm' e' => ⟨up e', b σ' _ (hs'.monoQ (sqm_unlock (up e'))) (ab_unlock hm' (up e') a) (ext_unlock e e')⟩
      · exact fun s' m' ⟨a, b⟩ σ' H' hs' hm' e' => ⟨up e', b σ' _ (hs'.monoQ (sqm_unlock (up e'))) (ab_unlock hm' (up e') a) (ext_unlock e e')⟩
      · exact (cN_ext ex).ex
/-! ### d.get(k), d.get(k, x) -/
def fGet (o : D) (ds : List D) (m : Mp) (k : K3) : Prop := ∃ p y w, o = .ref p ∧ DG m p y w ∧ ((ds = [y] ∧ k (w.getD .non) m) ∨ ∃ z, ds = [y, z] ∧ k (w.getD z) m)
def rGet : V → List V → Hp → VK → Prop := fun x vs H Q => ∃ a y w, x = .ref a ∧ DGet H a y w ∧ ((vs = [y] ∧ Q (w.getD .non) H) ∨ ∃ z, vs = [y, z] ∧ Q (w.getD z) H)
theorem mt_get (hu : X.A.units + 64 + 2 < cLine) : MtR X "dict.get" rGet := by
  intro pins s σ H x vs v us Q I rx rv ⟨a, y, w, ex, g, h⟩
  subst ex
  cases rx
  rcases h with ⟨rfl, q⟩ | ⟨z, rfl, q⟩
  · obtain ⟨u, rfl, ru⟩ := vals1 rv
    exact d_get1 (by omega) I g ru fun w' s' I' r' => ⟨_, H, I', r', q⟩
  · obtain ⟨u, u', rfl, ru, ru'⟩ := vals2 rv
    exact d_get2 (by omega) I g ru ru' fun w' s' I' r' => ⟨_, H, I', r', q⟩
theorem up_get : UpM X cl fGet rGet := fun H m o v ds vs Q r1 r2 hm ⟨p, y, w, e1, g, h⟩ => by
  subst e1
  have r' : v = .ref p := r1
  subst r'
  rcases h with ⟨rfl, q⟩ | ⟨z, rfl, q⟩
  · obtain ⟨u, rfl, ru⟩ := reps1 r2
    obtain ⟨ov, g', e⟩ := g.up hm ru
    refine ⟨p, u, ov, rfl, g', .inl ⟨rfl, ?_⟩⟩
    rcases e with ⟨rfl, rfl⟩ | ⟨d, w', rfl, rfl, rr⟩
    · exact q _ _ rfl hm (Ext.refl H)
    · exact q _ _ rr hm (Ext.refl H)
  · obtain ⟨u, u', rfl, ru, ru'⟩ := reps2 r2
    obtain ⟨ov, g', e⟩ := g.up hm ru
    refine ⟨p, u, ov, rfl, g', .inr ⟨u', rfl, ?_⟩⟩
    rcases e with ⟨rfl, rfl⟩ | ⟨d, w', rfl, rfl, rr⟩
    · exact q _ _ ru' hm (Ext.refl H)
    · exact q _ _ rr hm (Ext.refl H)
theorem mono_get : MonoM fGet := fun o ds m k k' hk ⟨p, y, w, e1, g, h⟩ => ⟨p, y, w, e1, g, h.elim (fun ⟨a, b⟩ => .inl ⟨a, hk _ _ b⟩) fun ⟨z, a, b⟩ => .inr ⟨z, a, hk _ _ b⟩⟩
/-! ### l.clear() -/
def fClear (o : D) (ds : List D) (m : Mp) (k : K3) : Prop := ∃ q l, o = .ref q ∧ ds = [] ∧ m q = some (.lst l) ∧ k .non (mset m q (.lst []))
theorem up_clear : UpM X cl fClear rClear := fun H m o v ds vs Q r1 r2 hm ⟨q, l, e1, e2, h1, h2⟩ => by
  subst e1 e2
  have r' : v = .ref q := r1
  subst r'
  cases r2
  obtain ⟨us, q1, q2⟩ := hm.1 q _ h1
  exact ⟨q, us, rfl, rfl, q1, h2 _ _ rfl (put_lst hm q1 rfl) (ext_lst q1)⟩
theorem mono_clear : MonoM fClear := fun o ds m k k' hk ⟨q, l, e1, e2, h1, h2⟩ => ⟨q, l, e1, e2, h1, hk _ _ h2⟩
/-! ### sorted -/
def rSrtDI : List V → Hp → VK → Prop := fun xs H Q => ∃ (a : Addr) (kvs : List (Key × V)) (ks : List Int), xs = [.ref a] ∧ Rd H a (.dK kvs) ∧ kvs.map (·.1) = ks.map Sum.inl ∧ ks.length ≤ sizeLine ∧
    ∀ (ys : List Int) (p : Addr), ys.Perm ks → ys.Pairwise (· ≤ ·) → H p = none → Q (.ref p) (upd H p (.lst (ys.map V.int)))
/-- the keys of a dict as they stand, all whole numbers -/
theorem ints_keys : ∀ {us : List Value} {kv : List (Key × Value)} {ns : List Int}, kv.map (·.1) = ns.map Sum.inl → us.length = kv.length → (∀ (j : Nat) (v : Value), us[j]? = some v → ∃ k x, kv[j]? = some (k, x) ∧ keyIs k v = true) → IntsAre us ns
  | [], [], [], _, _, _ => .nil
  | [], [], _ :: _, e, _, _ => nomatch e
  | [], _ :: _, _, _, l, _ => nomatch l
  | _ :: _, [], _, _, l, _ => nomatch l
  | _ :: _, _ :: _, [], e, _, _ => nomatch e
  | u :: us, (c, y) :: kv, n :: ns, e, l, at_ => by
    obtain ⟨rfl, rest⟩ := List.cons.inj e
    obtain ⟨k, x, e1, e2⟩ := at_ 0 u rfl
    cases e1
    obtain ⟨t, rfl⟩ := Value.isInt_shape e2
    exact .cons n t (ints_keys rest (Nat.succ.inj l) fun j v => at_ (j + 1) v)
/-- l.sort() of whole numbers: they stand in order, and nothing else is moved -/
theorem sort_ints {prog : Program} {w : World} {A : Around} {E : Value → Shared → Prop} {s : Shared} {p : Addr} {us : List Value} {ns : List Int} {Q : Value → Shared → Prop} (k : IntsAre us ns) (z : ns.length ≤ sizeLine) (g : s.heap.get? p = some (seqObj "list" us.toArray 0))
    (q : ∀ (h' : Heap) (out : List Value) (ys : List Int) (e : Nat), IntsAre out ys → ys.Perm ns → ys.Pairwise (· ≤ ·) → h'.get? p = some (seqObj "list" out.toArray e) → (∀ b, b < s.heap.objs.size → b ≠ p → h'.get? b = s.heap.get? b) → Q .none { s with heap := h' }) :
    wpAny (model prog w) A (call (.builtin "list.sort") [.ref p]) Q E s := by
  have lim : us.length ≤ sizeLine := k.length ▸ z
  refine wpAny_call_entry PyProof.Rows.slot_list_sort ⟨_, g, rfl⟩ PyProof.Rows.entry_list_sort ?_ (PyProof.Rows.args_list_sort _)
  refine SrtO.list_sort_ord SrtO.swo_int g lim (SrtO.ints_sortable k) fun out o1 o2 => ?_
  obtain ⟨e, ge⟩ := PyProof.Rows.sortedHeap_at (out := out.toArray) g
  obtain ⟨a, b, c⟩ := SrtO.ints_out k o1 o2
  exact ⟨.none, rfl, q _ out _ e a b c ge fun y lt ne => PyProof.Rows.sortedHeap_old ne lt⟩
/-- sorted(d), whole numbers, any number of them -/
theorem cr_srtDI (hc : X.calm = true) : CallR X (.builtin "sorted") rSrtDI := by
  rintro pins s σ H _ us Q I r ⟨a, kvs, ks, rfl, hd, keys, lim, wish⟩
  obtain ⟨-, lo, vs, pairs, dict⟩ := dk_rd I.hok hd
  obtain ⟨ep, at_⟩ := dict.dictAt
  obtain ⟨_, rfl, rfl⟩ := vals1 r
  have k2 : vs.map (·.1) = ks.map Sum.inl := pairs.keys ▸ keys
  have many : vs.length = ks.length := by rw [← List.length_map (f := (·.1)) (as := vs), k2, List.length_map]
  refine Calls.call_function_entry PyProof.Rows.kind_sorted PyProof.Rows.plain_sorted PyProof.Rows.entry_sorted (PyProof.Rows.args_sorted1 _) ?_
  show wpAny _ _ (checkCount "sorted" 1 1 1 >>= fun _ => _) _ _ _
  refine wpAny_bind (wpAny_pure (wpAny_bind (PySem.W.kdu_collect (PySem.W.kdl_dict (knd := mixKind X.prog X.w) (kvs := vs) (ep := ep) lo) (I.ok.hd hc) at_ (many ▸ lim) fun h1 tk acc up told => ?_)))
  have k : IntsAre acc.toList ks := ints_keys k2 (Array.length_toList.trans told.1) fun j v e => told.2 j v (Array.getElem?_toList ▸ e)
  have J : Inv X pins σ H { s with heap := h1, toks := tk } := I.kept up
  refine wpAny_bind (wpAny_newList ?_ (k.length ▸ lim))
  refine wpAny_bind (wpAny_holding (sort_ints k lim (Heap.get?_push_size _ rfl) fun h2 out ys e a b c g old => wpAny_pure ?_))
  have stay : ∀ y o, h1.get? y = some o → h2.get? y = some o := fun y o e => by
    have lt : y < h1.objs.size := Heap.lt_size e
    exact ((old y (by rw [size_push']; exact Nat.lt_succ_of_lt lt) (Nat.ne_of_lt lt)).trans (Heap.get?_push_of_some _ e))
  have new : ObjOk X.prog X.w (upd H h1.objs.size (.lst (ys.map V.int))) h2 h1.objs.size (.lst (ys.map V.int)) := ⟨by rw [List.length_map, b.length_eq]; exact lim, out, e, vals_of_ints a, g⟩
  exact ⟨_, rfl, .ref h1.objs.size, _, J.laid (t' := tk) stay (Nat.le_refl _) new, rfl, wish ys _ b c (J.hok.fresh (Nat.le_refl _))⟩
def fSorted (ds : List D) (m : Mp) (k : K3) : Prop := ∃ p, ds = [.ref p] ∧ ∃ ns : List Int, (RL m p (ns.map D.int) ∨ ∃ kvs : List (Key × D), (m p = some (.dK kvs) ∨ m p = some (.rdK kvs)) ∧ kvs.map (·.1) = ns.map Sum.inl ∧ ns.length ≤ sizeLine) ∧
  ∀ (ys : List Int) (q : Addr), ys.Perm ns → ys.Pairwise (· ≤ ·) → m q = none → k (.ref q) (mset m q (.lst (ys.map D.int)))
theorem reps_int {K : PySem.W.Frag} {H : Hp} : ∀ {ns : List Int}, Reps K H (ns.map D.int) (ns.map V.int)
  | [] => rfl
  | n :: ns => ⟨.int n, _, rfl, rfl, reps_int⟩
theorem q_sorted {p : Pos} {a : Expr} {rest : List Expr} {R : TA3} {pos : Pos} (hc : X.calm = true) (hg : Gl X "sorted") (hm : X.mg "sorted" = none) (ha : QA X cl W (a :: rest) R) (he : starEach (a :: rest) X.env = (false, eval a X.env) :: starEach rest X.env) (hpl : (backTo pos (starEach rest X.env)).any (·.1) = false) :
    QE X cl W (.Call (.Name "sorted" p) (a :: rest) [] pos) (eCB fSorted R) :=
  q_cb (r := fun vs H Q => rSortedI X.K vs H Q ∨ rSrtDI vs H Q) (fun pins s σ H xs us Q I r q => q.elim (cr_sortedI pins s σ H xs us Q I r) (cr_srtDI hc pins s σ H xs us Q I r)) (fun H m ds vs Q r hm ⟨p, e, ns, h1, h2⟩ => by
    subst e
    obtain ⟨v, rfl, rv⟩ := reps1 r
    cases rv
    rcases h1 with h1 | ⟨kvs, h1, h3, h4⟩
    · obtain ⟨ws, q1, q2⟩ := hm.rl h1
      have e := q2.ints
      subst e
      exact .inl ⟨p, ns, rfl, q1, fun ys q g1 g2 g3 => h2 ys q g1 g2 (hm.free g3) _ _ rfl (new_lst hm g3 reps_int) (Ext.new g3)⟩
    · rcases h1 with h1 | h1
      · obtain ⟨kws, q1, q2⟩ := hm.1 p _ h1
        exact .inr ⟨p, kws, ns, rfl, .inl q1, (repk_at q2).trans h3, h4, fun ys q g1 g2 g3 => h2 ys q g1 g2 (hm.free g3) _ _ rfl (new_lst hm g3 reps_int) (Ext.new g3)⟩
      · obtain ⟨o, kws, q1, q2⟩ := hm.1 p _ h1
        exact .inr ⟨p, kws, ns, rfl, .inr ⟨o, q1⟩, (repk_at q2).trans h3, h4, fun ys q g1 g2 g3 => h2 ys q g1 g2 (hm.free g3) _ _ rfl (new_lst hm g3 reps_int) (Ext.new g3)⟩)
    (fun ds m k k' hk ⟨p, e, ns, h1, h2⟩ => ⟨p, e, ns, h1, fun ys q g1 g2 g3 => hk _ _ (h2 ys q g1 g2 g3)⟩) (by decide +kernel) (by decide) (by decide) hg hm ha he hpl
end
end PV

/-! Steps for classes; what the top says of them. -/
namespace PV
open PySem L2 PyProof.Rows
section
variable {A B O V : TE3} {R : TA3} {s : S3} {m : Mp} {k : K3} {x : X3} {p : Addr} {f C : String} {fs : List (Str × D)} {v d : D} {T : Tb} {L i : Nat} {M : MT} {mt : String} {nx bk ct : S3 → Mp → Prop} {rt : K3} {ex : S3 → X3}
theorem x_fld {f : Str} (h : A s m (fun d m1 => ∃ a C fs v, d = .ref a ∧ m1 a = some (.ins C fs) ∧ fs.lookup f = some v ∧ k v m1) x) : eFld f A s m k x := h
theorem xf_fld {f : Str} {Z : D → Prop} (h1 : m p = some (.ins C fs)) (h2 : fs.lookup f = some v) (h : Z v) : ∃ a C fs v, D.ref p = .ref a ∧ m a = some (.ins C fs) ∧ fs.lookup f = some v ∧ Z v := ⟨p, C, fs, v, rfl, h1, h2, h⟩
theorem x_fldS {f : Str} (h : V s m (fun v m1 => O s m1 (fun o m2 => ∃ a C fs, o = .ref a ∧ m2 a = some (.ins C fs) ∧ fs.length < 1000 ∧ nx s (mset m2 a (.ins C (putFD f v fs)))) (ex s)) (ex s)) : sFldS f O V ⟨nx, rt, bk, ct, ex⟩ s m := h
theorem xf_fldS {Z : Addr → String → List (Str × D) → Prop} (h1 : m p = some (.ins C fs)) (h2 : fs.length < 1000) (h : Z p C fs) : ∃ a C fs, D.ref p = .ref a ∧ m a = some (.ins C fs) ∧ fs.length < 1000 ∧ Z a C fs := ⟨p, C, fs, rfl, h1, h2, h⟩
theorem x_meth (h : A s m (fun o m1 => ∃ a C fs i, o = .ref a ∧ m1 a = some (.ins C fs) ∧ fs.lookup (Str.ofString mt) = none ∧ M C mt = some i ∧ R s m1 (fun ds m2 => callS T L i (.ref a :: ds) m2 k x) x) x) : eMeth T L M mt A R s m k x := h
theorem xf_meth {f : Str} {Z : Addr → Nat → Prop} (h1 : m p = some (.ins C fs)) (h2 : fs.lookup f = none) (h3 : M C mt = some i) (h : Z p i) : ∃ a C fs i, D.ref p = .ref a ∧ m a = some (.ins C fs) ∧ fs.lookup f = none ∧ M C mt = some i ∧ Z a i := ⟨p, C, fs, i, rfl, h1, h2, h3, h⟩
theorem x_make (h : R s m (fun ds m1 => ∀ a, m1 a = none → callS T (L - 1) i (.ref a :: ds) (mset m1 a (.ins C [])) (fun d m2 => d = .non ∧ k (.ref a) m2) x) x) : eMake T L i C R s m k x := h
theorem x_lk0 {t : TS3} {D : N3} (h : t D s m) : sLk t D s m := .inl h
theorem x_lk {t : TS3} {d : Addr} {kvs : List (Key × PV.D)} (h1 : m d = some (.dK kvs))
    (h : t ⟨fun s' m' => m' d = some (.rdK kvs) ∧ nx s' (mset m' d (.dK kvs)), fun v m' => m' d = some (.rdK kvs) ∧ rt v (mset m' d (.dK kvs)), fun s' m' => m' d = some (.rdK kvs) ∧ bk s' (mset m' d (.dK kvs)), fun s' m' => m' d = some (.rdK kvs) ∧ ct s' (mset m' d (.dK kvs)), ex⟩ s (mset m d (.rdK kvs))) :
    sLk t ⟨nx, rt, bk, ct, ex⟩ s m := .inr ⟨d, kvs, h1, h⟩
theorem xf_get1 {kvs : List (Key × D)} {y : Key} (h1 : m p = some (.dK kvs) ∨ m p = some (.rdK kvs)) (h : k ((getD kvs y).getD .non) m) : fGet (.ref p) [keyD y] m k := ⟨p, _, _, rfl, ⟨kvs, y, h1, rfl, rfl⟩, .inl ⟨rfl, h⟩⟩
theorem xf_get2 {kvs : List (Key × D)} {y : Key} (h1 : m p = some (.dK kvs) ∨ m p = some (.rdK kvs)) (h : k ((getD kvs y).getD d) m) : fGet (.ref p) [keyD y, d] m k := ⟨p, _, _, rfl, ⟨kvs, y, h1, rfl, rfl⟩, .inr ⟨d, rfl, h⟩⟩
theorem x_tyK {Z : Prop} {kvs : List (Key × D)} (h0 : m p = some (.dK kvs)) (h : Z) : tyD "dict" (.ref p) m ∧ Z := ⟨.inr (.inr ⟨rfl, p, rfl, .inl ⟨kvs, h0⟩⟩), h⟩
theorem xf_clear {l : List D} (h1 : m p = some (.lst l)) (h : k .non (mset m p (.lst []))) : fClear (.ref p) [] m k := ⟨p, l, rfl, rfl, h1, h⟩
theorem xf_sortL {ns : List Int} (h1 : RL m p (ns.map D.int)) (h : ∀ (ys : List Int) (q : Addr), ys.Perm ns → ys.Pairwise (· ≤ ·) → m q = none → k (.ref q) (mset m q (.lst (ys.map D.int)))) : fSorted [.ref p] m k := ⟨p, rfl, ns, .inl h1, h⟩
theorem xf_sortD {kvs : List (Key × D)} {ns : List Int} (h1 : m p = some (.dK kvs) ∨ m p = some (.rdK kvs)) (h2 : kvs.map (·.1) = ns.map Sum.inl) (h3 : ns.length ≤ 100000)
    (h : ∀ (ys : List Int) (q : Addr), ys.Perm ns → ys.Pairwise (· ≤ ·) → m q = none → k (.ref q) (mset m q (.lst (ys.map D.int)))) : fSorted [.ref p] m k := ⟨p, rfl, ns, .inr ⟨kvs, h1, h2, Nat.le_trans h3 (by decide)⟩, h⟩
end
/-! ### what the top says of the classes -/
section
variable {P : Program} {w : World} {K : PySem.W.Frag} {mg : Str → Option Value} {base : Heap} {cl : Cl} {T : Tb} {L i : Nat} {lE lC : List (String × Addr)} {C m : String} {fa Ca : Addr}
theorem clOf_memE {w : World} {n : String} {a : Addr} (hC : ∀ p ∈ lC, p.1 ∉ eNames) (hn : n ∈ eNames) (h : clOf w (lE ++ lC) n = some a) : (n, a) ∈ lE :=
  (List.mem_append.mp (clOf_mem h)).elim id fun e => absurd hn (hC _ e)
theorem clOf_memC {w : World} {n : String} {a : Addr} (hE : ∀ p ∈ lE, p.1 ∈ eNames) (hn : n ∉ eNames) (h : clOf w (lE ++ lC) n = some a) : (n, a) ∈ lC :=
  (List.mem_append.mp (clOf_mem h)).elim (fun e => absurd (hE _ e) hn) id
theorem clk_mk {w : World} {fl : List Str} (hE : ∀ p ∈ lE, p.1 ∈ eNames) (hc : ∀ p ∈ lC, Cls K p.2) (hf : ∀ p ∈ lC, ∀ f ∈ fl, NoAttr K p.2 f) : ClK K (clOf w (lE ++ lC)) fl :=
  ⟨fun C a hn h => hc _ (clOf_memC hE hn h), fun C a f hn h hm => hf _ (clOf_memC hE hn h) f hm⟩
theorem mts_mk {M : MT} {ns : List String} (hE : ∀ p ∈ lE, p.1 ∈ eNames)
    (h : ∀ p ∈ lC, ∀ m ∈ ns, ∀ i, M p.1 m = some i → ∃ fa, PySem.W.findIn K (.ref p.2) (Str.ofString m) = some (some (.ref fa)) ∧ KnM P w K mg base (clOf w (lE ++ lC)) T L i fa) : Mts P w K mg base (clOf w (lE ++ lC)) T L M ns :=
  ⟨fun C a hn hc m hm i e => h _ (clOf_memC hE hn hc) m hm i e⟩
theorem knm_mk {tab : Nat → FSpec} {x qual : Str} {st : Stmt} {fd : FuncData} {ps : List Str} (F : Fun K x qual st fa fd) (hi : PySem.W.isFn K (.ref fa) = true) (hb : Binds K fd ps [])
    (ok : FnOk P w K mg base (L2.CX P w) L fa fd ps (liftSp K cl (tab i) L)) : KnM P w K mg base cl (fun i S => S = tab i) L i fa :=
  ⟨F.kp, hi, fun S e => by subst e; exact ⟨fd, ps, ok, hb⟩⟩
theorem mkC0 (h0 : C ∉ eNames) (h1 : cl C = some Ca) (h2 : mg (Str.ofString C) = some (.ref Ca)) (h3 : Mk K Ca fa) : MkC P w K mg base cl T 0 C i fa := ⟨Ca, h0, h1, h2, h3, fun j h => absurd h (Nat.not_lt_zero j)⟩
theorem mkC1 (h : MkC P w K mg base cl T L C i fa) (k : KnM P w K mg base cl T L i fa) : MkC P w K mg base cl T (L + 1) C i fa :=
  let ⟨Ca, h0, h1, h2, h3, h4⟩ := h.at_
  ⟨Ca, h0, h1, h2, h3, fun j hj => (Nat.lt_or_ge j L).elim (h4 j) fun g => by
    have e : j = L := Nat.le_antisymm (Nat.lt_succ_iff.mp hj) g
    subst e; exact k⟩
theorem cmt_mk {mc : Value} (h1 : mg (Str.ofString C) = some (.ref Ca)) (h2 : PySem.W.readsIn K Ca mc = true) (h3 : PySem.W.specialIn K (.ref Ca) "__getattribute__" = some (some (.builtin "type.__getattribute__")))
    (h4 : PySem.W.findCls K (.ref Ca) mc (Str.ofString m) = some (.val (.ref fa))) (h5 : PySem.W.handedIn (.ref fa) = true) (k : KnM P w K mg base cl T L i fa) : CMt P w K mg base cl T L C m i :=
  ⟨Ca, fa, mc, h1, h2, h3, h4, h5, k⟩
end
end PV

/-! Vaults: their draws, what they hold. -/
namespace PV
open PySem L2 PyProof.Rows
theorem xf_powE {b e : Int} {n : Nat} {m : Mp} {k : K3} (h0 : CPow b n) (he : e = n) (h : k (.int (b ^ n)) m) : fPow (.int b) (.int e) m k := by
  subst he
  exact ⟨b, n, rfl, rfl, h0, h⟩
/-- a row of draws -/
def RowV (row : List D) : Prop := ∃ y w : Int, row = [.int y, .int w] ∧ (w = 0 ∨ (0 ≤ y ∧ y < 999999937))
/-- the keys of a dict by whole numbers -/
def ks : List (Key × D) → List Int
  | [] => []
  | (.inl n, _) :: l => n :: ks l
  | _ :: l => ks l
def AllI (l : List (Key × D)) : Prop := l.map (·.1) = (ks l).map Sum.inl
def srtI (l : List Int) : List Int := l.mergeSort fun a b => decide (a ≤ b)
theorem srtI_perm {l : List Int} : (srtI l).Perm l := List.mergeSort_perm _ _
theorem srtI_sorted {l : List Int} : (srtI l).Pairwise (· ≤ ·) := by
  have h := List.pairwise_mergeSort (le := fun a b : Int => decide (a ≤ b)) (fun a b c h1 h2 => by simp at *; omega) (fun a b => by simp; omega) l
  exact h.imp fun h => by simpa using h
theorem sorted_uniq : ∀ {l r : List Int}, l.Perm r → l.Pairwise (· ≤ ·) → r.Pairwise (· ≤ ·) → l = r
  | [], r, h, _, _ => by rw [List.nil_perm.mp h]
  | a :: l, r, h, h1, h2 => by
    cases r with
    | nil => exact absurd h.length_eq (by simp)
    | cons b r =>
      rw [List.pairwise_cons] at h1 h2
      have ab : a = b := by
        have ha : a ∈ b :: r := h.subset List.mem_cons_self
        have hb : b ∈ a :: l := h.symm.subset List.mem_cons_self
        rcases List.mem_cons.mp ha with e | e
        · exact e
        · rcases List.mem_cons.mp hb with e' | e'
          · exact e'.symm
          · have := h1.1 _ e'; have := h2.1 _ e; omega
      subst ab
      rw [sorted_uniq (List.Perm.cons_inv h) h1.2 h2.2]
theorem srtI_is {l ys : List Int} (h : ys.Perm l) (h1 : ys.Pairwise (· ≤ ·)) : ys = srtI l := sorted_uniq (h.trans srtI_perm.symm) h1 srtI_sorted
theorem ks_len {l : List (Key × D)} (h : AllI l) : (ks l).length = l.length := by simpa using (congrArg List.length h).symm
theorem ks_app {l r : List (Key × D)} : ks (l ++ r) = ks l ++ ks r := by
  induction l with
  | nil => rfl
  | cons p l ih => rcases p with ⟨_ | _, _⟩ <;> simp [ks, ih]
theorem ks_map {l : List (Key × D)} {f : Key × D → Key × D} (hf : ∀ p, (f p).1 = p.1) : ks (l.map f) = ks l := by
  induction l with
  | nil => rfl
  | cons p l ih =>
    rcases hp : f p with ⟨k, d⟩
    have e := hf p
    rw [hp] at e
    rcases p with ⟨_ | _, _⟩ <;> subst e <;> simp [ks, ih, hp]
theorem allI_put {l : List (Key × D)} {n : Int} {d : D} (h : AllI l) : AllI (putD l (.inl n) d) := by
  unfold AllI putD at *
  split
  · rw [ks_map (fun p => by split <;> simp_all), List.map_map, ← h]
    apply List.map_congr_left
    intro p _
    dsimp only [Function.comp]
    split <;> simp_all
  · rw [ks_app, List.map_append, List.map_append, h]; rfl
theorem allI_nil : AllI [] := rfl
/-- a key's worth, if it is there -/
theorem getD_some {κ : Type} [DecidableEq κ] {l : List (κ × D)} {k : κ} (h : k ∈ l.map (·.1)) : ∃ d, getD l k = some d := by
  induction l with
  | nil => cases h
  | cons p l ih =>
    by_cases e : p.1 = k
    · exact ⟨p.2, getD_pos e⟩
    · rw [getD_neg e]
      rcases List.mem_cons.mp h with z | z
      · exact absurd z.symm e
      · exact ih z
theorem ks_get {l : List (Key × D)} {n : Int} (h : AllI l) (hn : n ∈ ks l) : ∃ d, getD l (.inl n) = some d := by
  refine getD_some ?_
  rw [h]
  exact List.mem_map.mpr ⟨n, hn, rfl⟩
/-- the worths, by the numbers given -/
def vl (l : List (Key × D)) (ys : List Int) : List D := ys.map fun n => (getD l (.inl n)).getD .non
/-- what a vault holds -/
structure Vk (l : List (Key × D)) : Prop where
  ai : AllI l
  fine : ∀ n d, getD l (.inl n) = some d → Fine 8 d ∧ d.sz ≤ 3000
theorem vk_nil : Vk [] := ⟨rfl, fun n d h => by rw [getD_nil] at h; cases h⟩
theorem Vk.put {l : List (Key × D)} {n : Int} {d : D} (h : Vk l) (h1 : Fine 8 d) (h2 : d.sz ≤ 3000) : Vk (putD l (.inl n) d) := ⟨allI_put h.ai, fun i e q => by
  rw [getD_put] at q
  split at q
  · cases q; exact ⟨h1, h2⟩
  · exact h.fine i e q⟩
theorem put_put {κ : Type} [DecidableEq κ] {l : List (κ × D)} {k : κ} {v : D} (h : getD l k = some v) : getD (putD l k v) k = some v := by rw [getD_put, if_pos rfl]
theorem xf_neR {n : Nat} {a : D} {m : Mp} {k : K3} (h1 : Fine n a) (hn : n ≤ 64) (h : k (.bl false) m) : fNe a a m k := by
  classical
  exact xf_neF h1 h1 hn (by simpa using h)
theorem eq_list {n : Nat} {l r : List D} {m : Mp} {p q : Addr} (h1 : RL m p l) (h2 : RL m q r) (f1 : ∀ d ∈ l, Fine n d) (f2 : ∀ d ∈ r, Fine n d) (hn : n < 64) :
    DP m (.ref p) (.list (toPs l)) ∧ DP m (.ref q) (.list (toPs r)) ∧ PEq (.list (toPs l)) (.list (toPs r)) ∧ (PyData.eqv (.list (toPs l)) (.list (toPs r)) = true ↔ l = r) := by
  refine ⟨.lst h1 (DPs.of fun d hd => (f1 d hd).dp), .lst h2 (DPs.of fun d hd => (f2 d hd).dp), peq_l ?_, ?_⟩
  · have := depthAll_of fun d hd => (f1 d hd).depth
    show PyData.depthAll (toPs l) + 1 ≤ 64
    omega
  · show PyData.eqv (.list (toPs l)) (.list (toPs r)) = true ↔ _
    simp only [PyData.eqv]
    exact eqvAll_of eqv_iff f1 f2
theorem xf_eqLT {n : Nat} {l : List D} {m : Mp} {k : K3} {p q : Addr} (h1 : RL m p l) (h2 : RL m q l) (f1 : ∀ d ∈ l, Fine n d) (hn : n < 64) (h : k (.bl true) m) : fEq (.ref p) (.ref q) m k := by
  obtain ⟨a, b, c, e⟩ := eq_list h1 h2 f1 f1 hn
  exact ⟨_, _, a, b, c, by rw [e.mpr rfl]; exact h⟩
theorem xf_neLT {n : Nat} {l : List D} {m : Mp} {k : K3} {p q : Addr} (h1 : RL m p l) (h2 : RL m q l) (f1 : ∀ d ∈ l, Fine n d) (hn : n < 64) (h : k (.bl false) m) : fNe (.ref p) (.ref q) m k := by
  obtain ⟨a, b, c, e⟩ := eq_list h1 h2 f1 f1 hn
  exact ⟨_, _, a, b, c, by rw [e.mpr rfl]; exact h⟩
theorem Vk.mem {l : List (Key × D)} {ys : List Int} (h : Vk l) : ∀ d ∈ vl l ys, Fine 8 d := fun d hd => by
  obtain ⟨n, _, rfl⟩ := List.mem_map.mp hd
  cases e : getD l (.inl n) with
  | none => exact Fine.non
  | some w => exact (h.fine n w e).1
theorem any_none {κ : Type} [DecidableEq κ] {l : List (κ × D)} {k : κ} (h : l.any (fun kv => decide (kv.1 = k)) = false) : ∀ p ∈ l, p.1 ≠ k := fun p hp e => by
  have := List.any_eq_false.mp h p hp
  simp [e] at this
/-- put twice -/
theorem put_twice {κ : Type} [DecidableEq κ] {l : List (κ × D)} {k : κ} {v : D} : putD (putD l k v) k v = putD l k v := by
  cases e : l.any (fun kv => decide (kv.1 = k)) with
  | true =>
    have e1 : putD l k v = l.map (fun kv => if kv.1 = k then (kv.1, v) else kv) := by unfold putD; rw [if_pos e]
    have e2 : (putD l k v).any (fun kv => decide (kv.1 = k)) = true := by
      rw [e1, List.any_eq_true]
      obtain ⟨p, hp, hk⟩ := List.any_eq_true.mp e
      have hk : p.1 = k := by simpa using hk
      exact ⟨(p.1, v), List.mem_map.mpr ⟨p, hp, by rw [if_pos hk]⟩, by simpa using hk⟩
    rw [putD, if_pos e2, e1, List.map_map]
    apply List.map_congr_left
    intro p _
    dsimp only [Function.comp]
    by_cases h : p.1 = k <;> simp [h]
  | false =>
    have e1 : putD l k v = l ++ [(k, v)] := by unfold putD; rw [if_neg (by rw [e]; decide)]
    have e2 : (putD l k v).any (fun kv => decide (kv.1 = k)) = true := by rw [e1]; simp
    rw [putD, if_pos e2, e1, List.map_append]
    congr 1
    · refine (List.map_congr_left fun p hp => ?_).trans (List.map_id _)
      rw [if_neg (any_none e p hp)]; rfl
    · simp
/-- like Fine, of any length -/
def FineL : Nat → D → Prop
  | _, .non => True
  | _, .int _ => True
  | _, .str _ => True
  | n + 1, .tup l => ∀ d ∈ l, FineL n d
  | _, _ => False
theorem FineL.le1 {n : Nat} : ∀ {d : D}, FineL n d → FineL (n + 1) d := by
  induction n with
  | zero => intro d h; cases d with
    | tup l => exact h.elim
    | _ => exact h
  | succ n ih => intro d h; cases d with
    | tup l => exact fun e he => ih (h e he)
    | _ => exact h
theorem FineL.le {n k : Nat} {d : D} (h : FineL n d) (e : n ≤ k) : FineL k d := by
  induction e with
  | refl => exact h
  | step _ ih => exact ih.le1
theorem Fine.l {n : Nat} : ∀ {d : D}, Fine n d → FineL n d := by
  induction n with
  | zero => intro d h; cases d with
    | tup l => exact h.elim
    | non => trivial
    | int i => trivial
    | str z => trivial
    | _ => exact h
  | succ n ih => intro d h; cases d with
    | tup l => exact fun e he => ih (h.2 e he)
    | non => trivial
    | int i => trivial
    | str z => trivial
    | _ => exact h
theorem FineL.cases {n : Nat} {d : D} (h : FineL n d) : d = .non ∨ (∃ i, d = .int i) ∨ (∃ z, d = .str z) ∨ ∃ l k, d = .tup l ∧ n = k + 1 ∧ ∀ e ∈ l, FineL k e := by
  cases d with
  | non => exact .inl rfl
  | int i => exact .inr (.inl ⟨i, rfl⟩)
  | str z => exact .inr (.inr (.inl ⟨z, rfl⟩))
  | tup l => cases n with
    | zero => cases h
    | succ k => exact .inr (.inr (.inr ⟨l, k, rfl, rfl, h⟩))
  | _ => cases n <;> cases h
end PV

/-! The exception with fields: made, raised, its fields read. -/
namespace PV
open PySem L2 PyProof.Rows
abbrev f1E : Str := Str.ofString "one"
abbrev f2E : Str := Str.ofString "other"
/-- what the top says of VaultError's own __init__ -/
structure VeF (K : PySem.W.Frag) (a : Addr) (mc : Value) : Prop where
  rd : PySem.W.readsIn K a mc = true
  sp : PySem.W.specialIn K (.ref a) "__getattribute__" = some (some (.builtin "type.__getattribute__"))
  fc : PySem.W.findCls K (.ref a) mc "__init__" = some (.val (.builtin "ValueError.__init__"))
  hd : PySem.W.handedIn (.builtin "ValueError.__init__") = true
section
variable {X : Cx} {cl : Cl} {W : WX} {p p1 p2 pos : Pos} {e : Expr} {es : List Expr} {ta : TA}
/-- ValueError.__init__ called with what is told of the rows behind it -/
theorem ve_with {pins : List (Addr × Obj)} {σ : L2.St} {H : Hp} {s : Shared} {Q : VK} (ha : PA X (e :: es) ta) (hst : starEach (e :: es) X.env = (false, eval e X.env) :: starEach es X.env) (hpl : (backTo pos (starEach es X.env)).any (·.1) = false) (J : Inv X pins σ H s) (h : tVeI X.K ta σ H Q) :
    wpAny (model X.prog X.w) X.A (callWith pos (.builtin "ValueError.__init__") [] (backTo pos (starEach (e :: es) X.env)) []) (EP X pins σ Q) X.xe s := by
  refine PyProof.Rows.callWith_method1 (wpAny_mono (ha.run pos pins s σ H _ J h) ?_ fun _ _ => id) hst hpl
  rintro us s1 ⟨_, H1, I1, r, a, C, ws, rfl, few, T, ea, q⟩
  match us, r with
  | _ :: _, .cons ra rr =>
    cases ra
    exact oinit_ok T I1 ea (by rw [← Paired.length rr, sizeLine_eq]; omega) fun _ I2 => ⟨_, H1, I2, show RelV .non .none from rfl, q⟩
theorem pe_veC {c : Str} {Ca : Addr} {mc : Value} {pl : Sem Bool} (hg : Gl X c) (hdb : (c == ("__debug__" : Str)) = false) (hm : X.mg c = some (.ref Ca)) (V : VeF X.K Ca mc) (ha : PA X (e :: es) ta)
    (ht : eval (.Call (.Attribute (.Name c p1) "__init__" p2) (e :: es) [] pos) X.env = (do let ov ← eval (.Name c p1) X.env; standAt p2.atName; let (f, first) ← holding [ov] (getMethod ov "__init__" pl); callWith pos f first (backTo pos (starEach (e :: es) X.env)) (backToKw pos (keywordEach [] X.env))))
    (hst : starEach (e :: es) X.env = (false, eval e X.env) :: starEach es X.env) (hpl : (backTo pos (starEach es X.env)).any (·.1) = false) :
    PE X (.Call (.Attribute (.Name c p1) "__init__" p2) (e :: es) [] pos) (tVeI X.K ta) :=
  ⟨fun pins s σ H Q I h => PySem.W.methodCall_KW (pl := pl) (ld_glob I hg hm (PySem.W.method_cls I.kIn V.sp (PySem.W.cls_value I.kIn V.rd V.fc V.hd (ve_with ha hst hpl (I.tok _) h))) hdb) ht⟩
/-- what the top says of the class with fields -/
structure CxF (K : PySem.W.Frag) (C : Addr) : Prop where
  ox : OexC K C
  n1 : PySem.W.findIn K (.ref C) f1E = some none
  n2 : PySem.W.findIn K (.ref C) f2E = some none
def fsE (y z : V) : List (Str × V) := [(f2E, z), (f1E, y)]
/-- its __init__ -/
def spCl (K : PySem.W.Frag) : Sp := fun vs H Q _ => ∃ (a C : Addr) (y z : V), vs = [.ref a, y, z] ∧ CxF K C ∧ H a = some (exo a C none) ∧
  ∀ dx, H dx = none → dx ≠ a → Q .non (upd (upd (upd H dx (exd dx [(f1E, y)])) a (exo a C (some dx))) dx (exd dx (fsE y z)))
/-- what is known of its def -/
structure ClI (P : Program) (w : World) (K : PySem.W.Frag) (mg : Str → Option Value) (base : Heap) (cl : Cl) : Prop where
  at_ : ∀ C, cl "Clash" = some C → CxF K C ∧ ∃ fI fd ps, PySem.W.findIn K (.ref C) "__init__" = some (some (.ref fI)) ∧ PySem.W.typeIn K (.ref fI) = some (.type "function") ∧ FnOk P w K mg base (L2.CX P w) 1 fI fd ps (spCl K) ∧ Binds K fd ps []
/-- raise Clash(one, other) -/
def sRsC (L : Nat) (R : TA3) : TS3 := fun D s m => 2 ≤ L ∧ R s m (fun ds m1 => ∃ y z, ds = [y, z] ∧ ∀ dd, m1 dd = none → D.ex s ⟨"Clash", some dd⟩ (mset m1 dd (.xd [(f2E, z), (f1E, y)]))) (D.ex s)
theorem heap_end {H1 : Hp} {a C dx : Addr} {y z : V} (ha : H1 a = none) (hd : dx ≠ a) :
    upd (del (upd (upd (upd (upd H1 a (exo a C none)) dx (exd dx [(f1E, y)])) a (exo a C (some dx))) dx (exd dx (fsE y z))) a) dx (.xd (fsE y z)) = upd H1 dx (.xd (fsE y z)) := by
  funext b
  by_cases h1 : b = dx
  · subst h1; rw [upd_same, upd_same]
  · rw [upd_ne h1, upd_ne h1]
    by_cases h2 : b = a
    · subst h2; rw [del_same, ha]
    · rw [del_ne h2, upd_ne h1, upd_ne h2, upd_ne h1, upd_ne h2]
theorem qs_raiseC {L : Nat} {R : TA3} {c : Str} {p3 : Pos} (EK : ExK X.K X.mg cl) (CI : ClI X.prog X.w X.K X.mg X.base cl) (tk : Takes X W) (hc : X.calm = true) (hcl : ∃ a, cl "Clash" = some a) (hr : Room L X.A) (hx : c = Str.ofString "Clash") (hg : Gl X c) (hdb : (c == ("__debug__" : Str)) = false) (ha : QA X cl W (e :: es) R)
    (hst : starEach (e :: es) X.env = (false, eval e X.env) :: starEach es X.env) (hpl : (backTo p3 (starEach es X.env)).any (·.1) = false) :
    QS X cl W (.Raise (some (.Call (.Name c p) (e :: es) [] p3)) none pos) (sRsC L R) := by
  obtain ⟨C, e1⟩ := hcl
  obtain ⟨CF, fI, fd, ps, i1, i2, i3, i4⟩ := CI.at_ C e1
  have e2 := EK.at_ "Clash" (by decide) C e1
  have hmg : X.mg c = some (.ref C) := by rw [hx]; exact e2
  refine ⟨fun s m D D' le ⟨h2, q⟩ => ⟨h2, ha.mono _ _ _ _ _ _ (fun ds m1 ⟨y, z, h3, h4⟩ => ⟨y, z, h3, fun dd hd => le.ex _ _ _ (h4 dd hd)⟩) (fun _ _ z => le.ex _ _ _ z) q⟩, ⟨fun pins s0 σ H D I h => ?_⟩⟩
  obtain ⟨s, m, hs, hm, h2, q⟩ := h
  refine (L2.ps_raise hc tk (pmk_oex (k := 1) CF.ox i1 i2 i3 (hr.mono h2) i4 .nil (by rintro pins σ H s e s' I z; obtain ⟨_, _, _, _, _, _, _, _, _, _, _, _, z⟩ := z; exact z.elim) hg hmg ha.run hdb hst hpl)).run pins s0 σ H D I ?_
  refine ⟨s, m, hs, hm, ha.mono _ _ _ _ _ _ (fun ds m1 ⟨y, z, h3, h4⟩ vs H1 r1 hm1 ex1 => ?_) (fun _ _ z => ex_cX hs z) q⟩
  subst h3
  obtain ⟨u, v, rfl, ru, rv⟩ := reps2 r1
  refine ⟨by simp, fun a na => ⟨a, C, u, v, rfl, CF, upd_same, fun dx nd ne => ⟨rfl, dx, fsE u v, ?_, upd_same, ?_, ?_⟩⟩⟩
  · rw [upd_ne (Ne.symm ne), upd_same]
  · rw [upd_ne ne] at nd; exact nd
  · rw [upd_ne ne] at nd
    rw [heap_end na ne]
    have en : Ext H1 (upd H1 dx (.xd (fsE u v))) := Ext.new nd
    exact h4 dx (hm1.free nd) σ _ _ _ (hs.mono (ex1.trans en)) ⟨C, show "Clash" ∈ eNames from by decide, e1, rfl, rfl⟩ (hm1.new nd ⟨fsE u v, upd_same, ⟨v, _, rfl, rv.mono en, ⟨u, _, rfl, ru.mono en, rfl⟩⟩⟩) (ex1.trans en)
/-! ### its fields -/
def eXf (f : Str) (A : TE3) : TE3 := fun s m k x => A s m (fun d m1 => ∃ a dd fs v, d = .ref a ∧ m1 a = some (.exc "Clash" (some dd)) ∧ m1 dd = some (.xd fs) ∧ fs.lookup f = some v ∧ k v m1) x
theorem q_xf {A : TE3} {o : Expr} {f : Str} (EK : ExK X.K X.mg cl) (CI : ClI X.prog X.w X.K X.mg X.base cl) (hf : f = f1E ∨ f = f2E) (ha : QE X cl W o A) (hb : attributeBase o f X.env (eval o X.env) = eval o X.env) : QE X cl W (.Attribute o f pos) (eXf f A) := by
  refine ⟨fun s m k k' x x' hk hx q => ha.mono _ _ _ _ _ _ (fun d m1 ⟨a, dd, fs, v, h1, h2, h3, h4, h5⟩ => ⟨a, dd, fs, v, h1, h2, h3, h4, hk _ _ h5⟩) hx q, ⟨fun pins s0 σ H Q I h => ?_⟩⟩
  obtain ⟨s, m, hs, hm, h⟩ := h
  have hO : upE X.K cl W A σ H (fun v H1 => ∃ d m1, Rep X.K H1 d v ∧ Ab X.K cl H1 m1 ∧ Ext H H1 ∧ ∃ a dd fs w, d = .ref a ∧ m1 a = some (.exc "Clash" (some dd)) ∧ m1 dd = some (.xd fs) ∧ fs.lookup f = some w ∧ cE X.K cl H Q w m1) :=
    ⟨s, m, hs, hm, ha.mono _ _ _ _ _ _ (fun d m1 z v H1 r hm1 e1 => ⟨d, m1, r, hm1, e1, z⟩) (fun _ _ z => z) h⟩
  refine attr_of hb (thn (ha.run.run pins s0 σ H _ I hO) fun u s1 ⟨v, H1, I1, rv, d, m1, r, hm1, e1, a, dd, fs, w, hd, h2, h3, h4, h5⟩ => ?_)
  subst hd
  have r' : v = .ref a := r
  subst r'
  obtain rfl : u = Value.ref a := rv
  obtain ⟨Ca, hn, hc, hh⟩ := hm1.1 a _ h2
  obtain ⟨fvs, hx, rk⟩ := hm1.1 dd _ h3
  obtain ⟨w', l', rw'⟩ := repk_lookS rk h4
  have CF := (CI.at_ Ca hc).1
  have T := (EK.ok "Clash" hn Ca hc).xf
  have hno : PySem.W.findIn X.K (.ref Ca) f = some none := by
    rcases hf with rfl | rfl
    · exact CF.n1
    · exact CF.n2
  obtain ⟨od, z, there, reads, rz⟩ := xd_field I1 hx l'
  obtain ⟨oe, g, kind, no, dict⟩ := exo_obj I1 hh
  exact HandSPX.exc_get I1.kIn ⟨g, kind, no, by rw [dict]; exact there⟩ T.ga T.gg T.exC (PySem.W.findObj_own T.hdC hno rfl reads) (handed_of rz) ⟨w', H1, I1.tok _, rz, h5 _ _ rw' hm1 e1⟩
end
section
variable {A : TE3} {R : TA3} {s : S3} {m : Mp} {k : K3} {x : X3} {L : Nat} {nx bk ct : S3 → Mp → Prop} {rt : K3} {ex : S3 → X3}
theorem x_rsC (h0 : 2 ≤ L) (h : R s m (fun ds m1 => ∃ y z, ds = [y, z] ∧ ∀ dd, m1 dd = none → ex s ⟨"Clash", some dd⟩ (mset m1 dd (.xd [(f2E, z), (f1E, y)]))) (ex s)) : sRsC L R ⟨nx, rt, bk, ct, ex⟩ s m := ⟨h0, h⟩
theorem x_xf {f : Str} (h : A s m (fun d m1 => ∃ a dd fs v, d = .ref a ∧ m1 a = some (.exc "Clash" (some dd)) ∧ m1 dd = some (.xd fs) ∧ fs.lookup f = some v ∧ k v m1) x) : eXf f A s m k x := h
theorem xf_xf {f : Str} {Z : D → Prop} {a dd : Addr} {fs : List (Str × D)} {v : D} (h1 : m a = some (.exc "Clash" (some dd))) (h2 : m dd = some (.xd fs)) (h3 : fs.lookup f = some v) (h : Z v) : ∃ a' dd fs v, D.ref a = .ref a' ∧ m a' = some (.exc "Clash" (some dd)) ∧ m dd = some (.xd fs) ∧ fs.lookup f = some v ∧ Z v := ⟨a, dd, fs, v, rfl, h1, h2, h3, h⟩
end
end PV

/-! Displays of dicts. -/
namespace PV
open PySem L2 PyProof.Rows
def tDs : List (TE3 × TE3) → S3 → Mp → (List (D × D) → Mp → Prop) → X3 → Prop
  | [], _, m, k, _ => k [] m
  | (a, b) :: r, s, m, k, x => a s m (fun u m1 => b s m1 (fun v m2 => tDs r s m2 (fun ps m3 => k ((u, v) :: ps) m3) x) x) x
def mergeD (l r : List (Key × D)) : List (Key × D) := r.foldl (fun acc kv => putD acc kv.1 kv.2) l
/-- {k: v, ..} -/
def eDs (T : List (TE3 × TE3)) : TE3 := fun s m k x => ∀ p, m p = none → tDs T s (mset m p (.dK [])) (fun vs m2 => m2 p = some (.dK []) ∧ ∃ kvs : List (Key × D), vs = kvs.map (fun e => (keyD e.1, e.2)) ∧ kvs.length ≤ 15 ∧ k (.ref p) (mset m2 p (.dK (mergeD [] kvs)))) x
inductive QPs (X : Cx) (cl : Cl) (W : WX) : List (Option Expr) → List Expr → List (TE3 × TE3) → Prop
  | nil : QPs X cl W [] [] []
  | cons {k v : Expr} {ks : List (Option Expr)} {vs : List Expr} {A B : TE3} {T : List (TE3 × TE3)} (ha : QE X cl W k A) (hb : QE X cl W v B) (r : QPs X cl W ks vs T) : QPs X cl W (some k :: ks) (v :: vs) ((A, B) :: T)
section
variable {X : Cx} {cl : Cl} {W : WX} {ks : List (Option Expr)} {vs : List Expr} {T : List (TE3 × TE3)} {pos : Pos}
def RepP (K : PySem.W.Frag) (H : Hp) : List (D × D) → List (V × V) → Prop
  | [], qs => qs = []
  | (a, b) :: r, qs => ∃ x y q, qs = (x, y) :: q ∧ Rep K H a x ∧ Rep K H b y ∧ RepP K H r q
theorem tDs_mono (h : QPs X cl W ks vs T) : ∀ {s : S3} {m : Mp} {k k' : List (D × D) → Mp → Prop} {x x' : X3}, (∀ d m, k d m → k' d m) → (∀ e m, x e m → x' e m) → tDs T s m k x → tDs T s m k' x' := by
  induction h with
  | nil => exact fun hk _ h => hk _ _ h
  | cons ha hb r ih => exact fun hk hx h => ha.mono _ _ _ _ _ _ (fun u m1 z => hb.mono _ _ _ _ _ _ (fun v m2 y => ih (fun ps m3 w => hk _ _ w) hx y) hx z) hx h
theorem tDs_up (h : QPs X cl W ks vs T) : ∃ trs, PPs X pos ks vs trs ∧ ∀ (s : S3) (m : Mp) (σ : L2.St) (H : Hp) (Q : List (V × V) → Hp → Prop), RepS X.K H s σ → Ab X.K cl H m →
    tDs T s m (fun ps m1 => ∀ qs H1, RepP X.K H1 ps qs → Ab X.K cl H1 m1 → Ext H H1 → Q qs H1) (cX X.K cl W H σ) → tPairs trs σ H Q := by
  induction h with
  | nil => exact ⟨[], pps_nil, fun s m σ H Q hs hm h => h [] H rfl hm (Ext.refl H)⟩
  | @cons k v ks vs A B T ha hb r ih =>
    obtain ⟨trs, i1, i2⟩ := ih
    refine ⟨_, pps_cons ha.run hb.run i1, fun s m σ H Q hs hm h => ?_⟩
    refine ⟨s, m, hs, hm, ha.mono _ _ _ _ _ _ (fun u m1 z x H1 rx hm1 e1 => ?_) (fun _ _ z => z) h⟩
    refine ⟨s, m1, hs.mono e1, hm1, hb.mono _ _ _ _ _ _ (fun v m2 z y H2 ry hm2 e2 => ?_) (fun _ _ z => cX_ext e1 z) z⟩
    refine i2 s m2 σ H2 _ (hs.mono (e1.trans e2)) hm2 (tDs_mono r (fun ps m3 z qs H3 rq hm3 e3 => ?_) (fun _ _ z => cX_ext (e1.trans e2) z) z)
    exact z _ H3 ⟨x, y, qs, rfl, rx.mono (e2.trans e3), ry.mono e3, rq⟩ hm3 ((e1.trans e2).trans e3)
theorem repk_put {K : PySem.W.Frag} {H : Hp} {k : Key} {d : D} {v : V} (q : Rep K H d v) {kvs : List (Key × D)} {kws : List (Key × V)} (h : RepK K H kvs kws) : RepK K H (putD kvs k d) (putK kws k v) := RepK.put h q
theorem repk_merge {K : PySem.W.Frag} {H : Hp} : ∀ {more : List (Key × D)} {mw : List (Key × V)}, RepK K H more mw → ∀ {l : List (Key × D)} {lw : List (Key × V)}, RepK K H l lw → RepK K H (mergeD l more) (mergeK lw mw)
  | [], _, h, _, _, q => by cases h; exact q
  | (k, d) :: r, _, h, l, lw, q => by
    obtain ⟨v, r', rfl, h2, h3⟩ := h
    exact repk_merge h3 (repk_put h2 q)
theorem repP_keys {K : PySem.W.Frag} {H : Hp} : ∀ {kvs : List (Key × D)} {qs : List (V × V)}, RepP K H (kvs.map fun e => (keyD e.1, e.2)) qs → ∃ kws : List (Key × V), qs = kws.map (fun e => (kV e.1, e.2)) ∧ RepK K H kvs kws ∧ kws.length = kvs.length
  | [], _, h => by cases h; exact ⟨[], rfl, rfl, rfl⟩
  | (k, d) :: r, _, h => by
    obtain ⟨x, y, q, rfl, h1, h2, h3⟩ := h
    obtain ⟨kws, rfl, i2, i3⟩ := repP_keys h3
    have ex := rep_key h1
    subst ex
    exact ⟨(k, y) :: kws, rfl, ⟨y, kws, rfl, h2, i2⟩, by simp [i3]⟩
theorem q_dis (h : QPs X cl W ks vs T) (hall : ks.all (·.isSome) = true) (hl : ks.length = vs.length) (h0 : ks ≠ []) (h15 : ks.length ≤ 15) : QE X cl W (.Dict ks vs pos) (eDs T) := by
  obtain ⟨trs, i1, i2⟩ := tDs_up (pos := pos) h
  refine ⟨fun s m k k' x x' hk hx q p hp => tDs_mono h (fun ps m2 ⟨a, kvs, b, c, d⟩ => ⟨a, kvs, b, c, hk _ _ d⟩) hx (q p hp), PE.imp (pe_disp i1 hall hl h0 h15) fun σ H Q ⟨s, m, hs, hm, q⟩ p hp => ?_⟩
  have en : Ext H (upd H p (.dK [])) := Ext.new hp
  refine i2 s (mset m p (.dK [])) σ _ _ (hs.mono en) (hm.new hp ⟨[], upd_same, rfl⟩) (tDs_mono h (fun ps m2 z qs H1 rq hm1 e1 => ?_) (fun _ _ z => cX_ext en z) (q p (hm.free hp)))
  obtain ⟨a, kvs, rfl, c, d⟩ := z
  obtain ⟨kws, rfl, i3, i4⟩ := repP_keys rq
  obtain ⟨w0, b1, b2⟩ := hm1.1 p _ a
  cases b2
  have ex : Ext H1 (upd H1 p (.dK (mergeK [] kws))) := ext_dK b1
  refine ⟨b1, kws, rfl, by omega, ?_⟩
  exact d _ _ rfl (hm1.put ex ⟨_, upd_same, (repk_merge i3 (l := []) (lw := []) rfl).mono ex⟩) ((en.trans e1).trans ex)
end
section
variable {A B : TE3} {T : List (TE3 × TE3)} {s : S3} {m : Mp} {k : K3} {x : X3}
theorem x_dis (h : ∀ p, m p = none → tDs T s (mset m p (.dK [])) (fun vs m2 => m2 p = some (.dK []) ∧ ∃ kvs : List (Key × D), vs = kvs.map (fun e => (keyD e.1, e.2)) ∧ kvs.length ≤ 15 ∧ k (.ref p) (mset m2 p (.dK (mergeD [] kvs)))) x) : eDs T s m k x := h
theorem x_ds1 {kk : List (D × D) → Mp → Prop} (h : A s m (fun u m1 => B s m1 (fun v m2 => tDs T s m2 (fun ps m3 => kk ((u, v) :: ps) m3) x) x) x) : tDs ((A, B) :: T) s m kk x := h
theorem x_ds0' {kk : List (D × D) → Mp → Prop} (h : kk [] m) : tDs [] s m kk x := h
end
end PV

/-! Many cells that stand at once, each by its place. -/
namespace PV
open PySem L2 PyProof.Rows
abbrev Cs := List (Addr × O)
structure Cells (m : Mp) (cs : Cs) : Prop where
  nd : (cs.map (·.1)).Nodup
  at_ : ∀ p ∈ cs, m p.1 = some p.2
section
variable {m m' : Mp} {cs : Cs} {a b : Addr} {o o' u : O} {ps : List Addr}
theorem Cells.fr (h : Cells m cs) (f : Fr ps m m') (hp : ∀ p ∈ cs, p.1 ∉ ps) : Cells m' cs := ⟨h.nd, fun p q => f.at (hp p q) (h.at_ p q)⟩
theorem Cells.fr0 (h : Cells m cs) (f : Fr [] m m') : Cells m' cs := h.fr f fun _ _ => ni_nil
theorem Cells.get (h : Cells m cs) (i : Nat) (e : cs[i]? = some (a, o)) : m a = some o := h.at_ _ (List.mem_of_getElem? e)
theorem Cells.ne (h : Cells m cs) (i j : Nat) (ei : cs[i]? = some (a, o)) (ej : cs[j]? = some (b, u)) (ij : i ≠ j) : a ≠ b := fun e => by
  have hi : (cs.map (·.1))[i]? = some a := by rw [List.getElem?_map, ei]; rfl
  have hj : (cs.map (·.1))[j]? = some b := by rw [List.getElem?_map, ej]; rfl
  subst e
  have li := (List.getElem?_eq_some_iff.mp hi).1
  exact ij ((List.getElem?_inj li h.nd).mp (hi.trans hj.symm))
theorem Cells.set1 (h : Cells m cs) (i : Nat) (e : cs[i]? = some (a, o)) (f : Fr [a] m m') (h' : m' a = some o') : Cells m' (cs.set i (a, o')) := by
  have hl := (List.getElem?_eq_some_iff.mp e).1
  have hm : (cs.set i (a, o')).map (·.1) = cs.map (·.1) := by
    rw [List.map_set]
    apply List.ext_getElem?
    intro j
    rw [List.getElem?_set]
    split
    · rename_i ij
      subst ij
      rw [List.length_map, if_pos hl, List.getElem?_map, e]; rfl
    · rfl
  refine ⟨by rw [hm]; exact h.nd, fun p hp => ?_⟩
  obtain ⟨j, hj⟩ := List.mem_iff_getElem?.mp hp
  rw [List.getElem?_set] at hj
  split at hj
  · cases hj
    exact h'
  · rename_i ij
    have hne : p.1 ≠ a := Ne.symm (h.ne i j e (show cs[j]? = some (p.1, p.2) from hj) ij)
    exact f.at (ni_cons hne ni_nil) (h.at_ p (List.mem_of_getElem? hj))
theorem Cells.set2 (h : Cells m cs) (i j : Nat) {u' : O} (e : cs[i]? = some (a, o)) (e' : cs[j]? = some (b, u)) (ij : i ≠ j) (f : Fr [a, b] m m') (h1 : m' a = some o') (h2 : m' b = some u') : Cells m' ((cs.set i (a, o')).set j (b, u')) := by
  have ab := h.ne i j e e' ij
  have g1 : Cells (mset m a o') (cs.set i (a, o')) := h.set1 i e (Fr.set (Fr.refl _ _) (Or.inl in_h)) mset_same
  have e2 : (cs.set i (a, o'))[j]? = some (b, u) := by rw [List.getElem?_set_ne ij]; exact e'
  have g2 : Cells (mset (mset m a o') b u') ((cs.set i (a, o')).set j (b, u')) := g1.set1 j e2 (Fr.set (Fr.refl _ _) (Or.inl in_h)) mset_same
  refine ⟨g2.nd, fun p hp => ?_⟩
  have q := g2.at_ p hp
  by_cases pb : p.1 = b
  · rw [pb, mset_same] at q; rw [pb, h2]; exact q
  · rw [mset_ne pb] at q
    by_cases pa : p.1 = a
    · rw [pa, mset_same] at q; rw [pa, h1]; exact q
    · rw [mset_ne pa] at q
      exact f.at (ni_cons pa (ni_cons pb ni_nil)) q
theorem Cells.perm {cs' : Cs} (h : Cells m cs) (p : cs.Perm cs') : Cells m cs' := ⟨(p.map _).nodup_iff.mp h.nd, fun q hq => h.at_ q (p.symm.subset hq)⟩
theorem Cells.push (h : Cells m cs) (n : m a = none) : Cells (mset m a o) ((a, o) :: cs) := by
  refine ⟨?_, fun p hp => ?_⟩
  · rw [List.map_cons, List.nodup_cons]
    refine ⟨fun hm => ?_, h.nd⟩
    obtain ⟨p, hp, e⟩ := List.mem_map.mp hm
    have := h.at_ p hp
    rw [e, n] at this
    cases this
  · rcases List.mem_cons.mp hp with e | e
    · subst e; exact mset_same
    · exact (mset_ne (ne_none (h.at_ p e) n)).trans (h.at_ p e)
end
end PV

/-! list(reversed(a list)). -/
namespace PV
open PySem L2 PyProof.Rows
theorem in_pair {α : Type} {b u v : α} (h : b ∈ [u, v]) : b = u ∨ b = v := by simpa using h
section
variable {prog : Program} {w : World} {A : Around} {E : Value → Shared → Prop} {s : Shared} {it l S : Addr} {i : Int} {items : Array Value}
/-- an iterator from the back tells no size ahead -/
theorem back_hint {Q : Bool → Shared → Prop} (hit : s.heap.IsRevIter it l i) (q : Q false s) : wpAny (model prog w) A (Builtin.List.listLengthHint (.ref it)) Q E s := by
  have kind : s.TypeIs (.ref it) "list_reverseiterator" := hit.typeIs
  have name : splitId "list_reverseiterator.__length_hint__" = some ("list_reverseiterator", "__length_hint__") := by decide +kernel
  have own : wpAny (model prog w) A (isInstance (.ref it) (.type "list_reverseiterator")) (fun b s1 => b = true ∧ s1 = s) E s := wpAny_isInstance (b := true) kind (by rw [isSubtype_type]; kernel_rfl) ⟨rfl, rfl⟩
  unfold Builtin.List.listLengthHint
  refine wpAny_bind (wpAny_specialOf kind RT.nolen_lri (wpAny_bind (wpAny_specialOf kind RT.hint_lri ?_)))
  generalize ef : "list_reverseiterator.__length_hint__" = f at *
  simp only [name]
  refine wpAny_bind (wpAny_mono own (fun b s1 z => ?_) fun _ _ z => z)
  obtain ⟨rfl, rfl⟩ := z
  subst ef
  exact wpAny_pure q
/-- the things of a list from its end -/
abbrev Back (items : Array Value) (j : Nat) (v : Value) : Prop := items[items.size - 1 - j]? = some v
/-- the list S, empty yet, takes all that an iterator over l from its end tells -/
theorem back_fill {R : Result → Shared → Prop} {c : Nat} (hh : A.handled = none) (g : s.heap.get? S = some { cls := .type "list", data := .seq #[] c }) (hit : s.heap.IsRevIter it l ((items.size : Int) - 1)) (hl : s.heap.IsList l items) (apart : l ≠ it ∧ S ≠ it ∧ S ≠ l) (lim : items.size ≤ sizeLine)
    (fin : ∀ (h' : Heap) (tk : Nat) (acc : Array Value) (c' : Nat), (∀ b o, b ≠ S → b ≠ it → s.heap.get? b = some o → h'.get? b = some o) → h'.get? S = some { cls := .type "list", dict := none, data := .seq acc c', slots := #[] } → ItemsOf (Back items) acc items.size → R (.ok (.ret .none)) { s with heap := h', toks := tk }) :
    wpAny (model prog w) A.in1 (Builtin.List.listExtendWith (.ref S) (.ref it) .none) (fun f s' => match f with | .done f => R (.ok f) s' | .again c' => c'.quiet = true ∧ codeAny (model prog w) A c' R s') (fun e s' => R (.error e) s') s := by
  have kind : s.TypeIs (.ref it) "list_reverseiterator" := hit.typeIs
  have walk := (Walks.listRev (prog := prog) (w := w) (A := A.in1) hh it l apart.1 items).toS
  have out : S ∉ [it, l] := fun z => (in_pair z).elim apart.2.1 apart.2.2
  have start : s.heap.IsRevIter it l ((items.size : Int) - 1 - ((0 : Nat) : Int)) ∧ s.heap.IsList l items := ⟨by rw [show (items.size : Int) - 1 - ((0 : Nat) : Int) = (items.size : Int) - 1 by omega]; exact hit, hl⟩
  have two : Builtin.List.listSameRef (.ref S) (.ref it) = false := by simp [Builtin.List.listSameRef, apart.2.1]
  unfold Builtin.List.listExtendWith
  refine wpAny_bind (wpAny_typeOf kind ?_)
  rw [two, if_neg (by decide)]
  refine wpAny_bind (wpAny_pyIter_revIter hit (wpAny_bind (wpAny_holding (back_hint hit ?_))))
  rw [if_neg (by decide)]
  refine wpAny_pure ⟨plainId_quiet F.plain_extend_loop _, ?_⟩
  refine codeAny_extend_loopS walk lim S out .none items.size 0 s #[] c rfl (Nat.zero_le _) ⟨Nat.zero_le _, start⟩ g (ItemsOf.nil _) fun s' acc c' moved full told => ?_
  rw [Moved.eq_with moved]
  exact fin s'.heap s'.toks acc c' (fun b o b1 b2 e => moved.heap b o (fun z => (List.mem_cons.mp z).elim b1 fun z => b2 (List.mem_singleton.mp z)) e) full told
theorem items_none {A : Around} {Q : Array Value → Shared → Prop} {c : Nat} (g : s.heap.get? S = some { cls := .type "list", data := .seq #[] c }) (q : Q #[] s) : wpAny (model prog w) A (Builtin.List.listItems (.ref S)) Q E s := by
  unfold Builtin.List.listItems
  exact wpAny_bind (wpAny_seqItems g rfl (wpAny_pure q))
theorem back_init {R : Result → Shared → Prop} (hh : A.handled = none) (g : s.heap.get? S = some { cls := .type "list", data := .seq #[] }) (hit : s.heap.IsRevIter it l ((items.size : Int) - 1)) (hl : s.heap.IsList l items) (apart : l ≠ it ∧ S ≠ it ∧ S ≠ l) (lim : items.size ≤ sizeLine)
    (fin : ∀ (h' : Heap) (tk : Nat) (acc : Array Value) (c' : Nat), (∀ b o, b ≠ S → b ≠ it → s.heap.get? b = some o → h'.get? b = some o) → h'.get? S = some { cls := .type "list", dict := none, data := .seq acc c', slots := #[] } → ItemsOf (Back items) acc items.size → R (.ok (.ret .none)) { s with heap := h', toks := tk }) :
    wpAny (model prog w) A.in1 (Builtin.«list.__init__» ⟨[.ref S, .ref it], []⟩) (fun f s' => match f with | .done f => R (.ok f) s' | .again c' => c'.quiet = true ∧ codeAny (model prog w) A c' R s') (fun e s' => R (.error e) s') s := by
  have code : Builtin.«list.__init__» ⟨[.ref S, .ref it], []⟩ = (Builtin.List.listItems (.ref S) >>= fun old => updateSeq S (fun _ => #[]) >>= fun _ => letGo old.toList.reverse >>= fun _ => Builtin.List.listExtendWith (.ref S) (.ref it) .none) := rfl
  rw [code]
  refine wpAny_bind (items_none g (wpAny_bind (wpAny_updateSeq g rfl (wpAny_bind (wpAny_letGo ?_)))))
  have same : ∀ b o, b ≠ S → s.heap.get? b = some o → (s.heap.update S (Obj.mapSeq fun _ => #[])).get? b = some o := fun b o n e => (Heap.get?_update_other _ _ n.symm).trans e
  obtain ⟨ol, gl, kl⟩ := id hl
  exact back_fill hh (Heap.get?_update_self (Obj.mapSeq fun _ => #[]) g rfl) (hit.at fun o e => same it o apart.2.1.symm e) ⟨ol, same l ol apart.2.2.symm gl, kl⟩ apart lim fun h' tk acc c' keep full told => fin h' tk acc c' (fun b o n1 n2 e => keep b o n1 n2 (same b o n1 e)) full told
/-- list(an iterator over l from its end): a new list -/
theorem back_call {Q : Value → Shared → Prop} (hh : A.handled = none) (hit : s.heap.IsRevIter it l ((items.size : Int) - 1)) (hl : s.heap.IsList l items) (ne : l ≠ it) (lim : items.size ≤ sizeLine)
    (q : ∀ (h' : Heap) (tk : Nat) (acc : Array Value) (c' : Nat), (∀ b o, b ≠ it → s.heap.get? b = some o → h'.get? b = some o) → h'.get? s.heap.objs.size = some { cls := .type "list", dict := none, data := .seq acc c', slots := #[] } → ItemsOf (Back items) acc items.size → Q (.ref s.heap.objs.size) { s with heap := h', toks := tk }) :
    wpAny (model prog w) A (call (.type "list") [.ref it]) Q E s := by
  have grown : ∀ b o, s.heap.get? b = some o → (s.heap.push { cls := .type "list", data := .seq #[] }).get? b = some o := fun _ _ => Heap.get?_push_of_some _
  have fresh : ∀ b o, s.heap.get? b = some o → s.heap.objs.size ≠ b := fun b o e => Nat.ne_of_gt (Heap.lt_size e)
  have top : (s.heap.push { cls := .type "list", data := .seq #[] }).get? s.heap.objs.size = some { cls := .type "list", data := .seq #[] } := Heap.get?_push_size _ rfl
  refine callType_codes (Q₁ := fun v z => v = .ref s.heap.objs.size ∧ z = { s with heap := s.heap.push { cls := .type "list", data := .seq #[] } }) F.called_list (F.typeCall_list_1 _) F.entry_list_init (code_list_new _ ⟨rfl, rfl⟩) ?_
  rintro _ _ ⟨rfl, rfl⟩
  refine ⟨⟨_, top, rfl⟩, F.args_list_init_2 _ _, ?_⟩
  have ⟨oi, gi, _⟩ := hit
  have ⟨ol, gl, kl⟩ := hl
  refine back_init (A := A.in1) hh top (hit.at fun o e => grown _ o e) ⟨ol, grown l ol gl, kl⟩ ⟨ne, fresh it oi gi, fresh l ol gl⟩ lim fun h' tk acc c' keep full told => ⟨rfl, q h' tk acc c' (fun b o n e => keep b o (fresh b o e).symm n (grown b o e)) full told⟩
end
/-- list(reversed(a list)) -/
def eRev (A : TE3) : TE3 := fun s m k x => A s m (fun d m1 => ∃ a l, d = .ref a ∧ RL m1 a l ∧ ∀ q, m1 q = none → k (.ref q) (mset m1 q (.lst l.reverse))) x
theorem x_rev {A : TE3} {s : S3} {m : Mp} {k : K3} {x : X3} (h : A s m (fun d m1 => ∃ a l, d = .ref a ∧ RL m1 a l ∧ ∀ q, m1 q = none → k (.ref q) (mset m1 q (.lst l.reverse))) x) : eRev A s m k x := h
section
variable {X : Cx} {cl : Cl} {W : WX} {A : TE3} {e : Expr} {p p2 pos pos2 : Pos}
theorem mono_rev (ha : MonoE A) : MonoE (eRev A) := fun s m k k' x x' hk hx h => ha _ _ _ _ _ _ (fun d m1 ⟨a, l, e, r, z⟩ => ⟨a, l, e, r, fun q hq => hk _ _ (z q hq)⟩) hx h
/-- reversed(a list), just made: at s1 the list stood alone -/
def RevMade (X : Cx) (cl : Cl) (pins : List (Addr × Obj)) (σ : L2.St) (H : Hp) (Q : VK) (r : Value) (s2 : Shared) : Prop :=
  ∃ (q : Addr) (l : List D) (vs : List V) (its : List Value) (H1 : Hp) (m1 : Mp) (s1 : Shared), r = .ref s1.heap.objs.size ∧ s2 = { s1 with heap := s1.heap.push (revObj q ((its.toArray.size : Int) - 1)) } ∧ Inv X pins σ H1 s1 ∧ PlainL s1.heap q its.toArray ∧ vs.length ≤ sizeLine ∧ Vals vs its ∧ Reps X.K H1 l vs ∧ Ab X.K cl H1 m1 ∧ Ext H H1 ∧
    ∀ z, m1 z = none → cE X.K cl H Q (.ref z) (mset m1 z (.lst l.reverse))
theorem rev_made {pins : List (Addr × Obj)} {σ : L2.St} {H : Hp} {s : Shared} {Q : VK} (hg2 : Gl X "reversed") (hm2 : X.mg "reversed" = none) (ha : QE X cl W e A) (hs : starEach [e] X.env = (false, eval e X.env) :: starEach [] X.env) (I : Inv X pins σ H s) (h : upE X.K cl W (eRev A) σ H Q) :
    wpAny (model X.prog X.w) X.A (eval (.Call (.Name "reversed" p2) [e] [] pos2) X.env) (RevMade X cl pins σ H Q) X.xe s := by
  obtain ⟨sl, m, hsl, hm, h⟩ := h
  have arg := ha.run.run pins s σ H (fun v H1 => ∃ d m1, Rep X.K H1 d v ∧ Ab X.K cl H1 m1 ∧ Ext H H1 ∧ ∃ a l, d = .ref a ∧ RL m1 a l ∧ ∀ z, m1 z = none → cE X.K cl H Q (.ref z) (mset m1 z (.lst l.reverse))) I
    ⟨sl, m, hsl, hm, ha.mono _ _ _ _ _ _ (fun d m1 z v H1 r hm1 e1 => ⟨d, m1, r, hm1, e1, z⟩) (fun _ _ z => z) h⟩
  refine Call_ (ld_blt I hg2 hm2 PyProof.Rows.boot_reversed (PyProof.Rows.callWith_type1 (args_cons (wpAny_mono arg ?_ fun _ _ z => z) hs) hs rfl))
  rintro u s1 ⟨v, H1, I1, rv, d, m1, rd, hm1, e1, q, l, rfl, rl, w⟩
  obtain rfl : v = .ref q := rd
  cases rv
  obtain ⟨vs, sq, rps⟩ := hm1.rl rl
  obtain ⟨its, vals, pl, lim⟩ := I1.list sq
  exact args_nil (call_reversed_list pl.isList ⟨q, l, vs, its, H1, m1, s1, rfl, rfl, I1, pl, lim, vals, rps, hm1, e1, w⟩)
theorem q_rev (hc : X.calm = true) (hg : Gl X "list") (hm : X.mg "list" = none) (hg2 : Gl X "reversed") (hm2 : X.mg "reversed" = none) (ha : QE X cl W e A) (hs : starEach [e] X.env = (false, eval e X.env) :: starEach [] X.env := by rfl)
    (hs2 : starEach [.Call (.Name "reversed" p2) [e] [] pos2] X.env = (false, eval (.Call (.Name "reversed" p2) [e] [] pos2) X.env) :: starEach [] X.env := by rfl) :
    QE X cl W (.Call (.Name "list" p) [.Call (.Name "reversed" p2) [e] [] pos2] [] pos) (eRev A) := by
  refine ⟨mono_rev ha.mono, ⟨fun pins s σ H Q I h => ?_⟩⟩
  refine Call_ (ld_blt I hg hm boot_list (PyProof.Rows.callWith_type1 (args_cons (wpAny_mono (rev_made hg2 hm2 ha hs I h) ?_ fun _ _ z => z) hs2) hs2 rfl))
  rintro _ _ ⟨q, l, vs, its, H1, m1, s1, rfl, rfl, I1, pl, lim, vals, rps, hm1, e1, w⟩
  have grown : ∀ b o, s1.heap.get? b = some o → (s1.heap.push (revObj q ((its.toArray.size : Int) - 1))).get? b = some o := fun _ _ => Heap.get?_push_of_some _
  have ⟨ol, gl, kl⟩ := pl.isList
  have small : its.toArray.size ≤ sizeLine := by rw [List.size_toArray, ← vals.length]; exact lim
  have up : s1.heap.objs.size ≤ (s1.heap.push (revObj q ((its.toArray.size : Int) - 1))).objs.size := by rw [size_push']; exact Nat.le_succ _
  refine args_nil (back_call (I1.ok.hd hc) ⟨_, Heap.get?_push_size _ rfl, rfl, rfl⟩ ⟨ol, grown q ol gl, kl⟩ (Nat.ne_of_lt (Heap.lt_size gl)) small fun h' tk acc c' keep full told => ?_)
  have free := I1.hok.fresh up
  have made : ObjOk X.prog X.w (upd H1 (s1.heap.push (revObj q ((its.toArray.size : Int) - 1))).objs.size (.lst vs.reverse)) h' _ (.lst vs.reverse) := ⟨by rw [List.length_reverse]; exact lim, acc.toList, c', RT.vals_rev vals told, by rw [Array.toArray_toList]; exact full⟩
  exact ⟨.ref _, _, I1.laid (t' := tk) (fun b o e => keep b o (Nat.ne_of_lt (Heap.lt_size e)) (grown b o e)) up made, rfl, w _ (hm1.free free) _ _ rfl (new_lst hm1 free rps.reverse) (e1.trans (Ext.new free))⟩
end
end PV

/-! Walks over reversed(a list), enumerate(a list); isinstance with several built-in classes. -/
namespace PV
open PySem L2 PyProof.Rows
section
variable {X : Cx} {cl : Cl} {W : WX} {a tg : Expr} {A : TE3} {R : TA3} {p pos : Pos}
theorem walk_rev {q : Addr} {l : List D} {H0 : Hp} : Walk3 X.K cl H0 (Itv X.K q l.length) l.reverse fun m => RL m q l := fun i H m e0 hm h hi => by
  obtain ⟨vs, q1, q2⟩ := hm.rl h
  rw [List.length_reverse] at hi
  refine ⟨fun e => by rw [List.length_reverse] at e; exact Nat.le_of_eq e.symm, fun d hd => ?_⟩
  have hlt := (List.getElem?_eq_some_iff.mp hd).1
  rw [List.length_reverse] at hlt
  rw [List.getElem?_reverse hlt] at hd
  obtain ⟨v, e1, r1⟩ := q2.get hd
  refine ⟨⟨hlt, vs, v, q1, e1⟩, fun x H' ⟨eH, hx⟩ => ?_⟩
  subst eH
  have e2 := hx vs q1
  rw [e1] at e2; cases e2
  exact ⟨r1, hm, Ext.refl _⟩
def iRv (R : TA3) : TI3 := fun s m k x => R s m (fun ds m1 => ∃ q l, ds = [.ref q] ∧ RL m1 q l ∧ k l.reverse (fun m => RL m q l) m1) x
theorem qi_rev (hg : Gl X "reversed") (hm : X.mg "reversed" = none) (ha : QA X cl W [a] R) (hs : starEach [a] X.env = [(false, eval a X.env)]) : QI X cl W tg (.Call (.Name "reversed" p) [a] [] pos) (iRv R) :=
  ⟨fun s m k k' x x' hk hx h => ha.mono _ _ _ _ _ _ (fun ds m1 ⟨q, l, e, z, w⟩ => ⟨q, l, e, z, hk _ _ _ w⟩) hx h,
   PI.imp (pi_reversed hg hm ha.run hs) fun σ H Q ⟨s, m, h1, h2, h⟩ => ⟨s, m, h1, h2, ha.mono _ _ _ _ _ _ (fun ds m1 ⟨q, l, e, z, w⟩ vs H1 r hm1 e1 => by
    subst e
    obtain ⟨v, rfl, y⟩ := reps1 r
    cases y
    obtain ⟨us, q1, q2⟩ := hm1.rl z
    refine ⟨q, us, rfl, q1, ?_⟩
    rw [← q2.length]
    exact w _ H1 walk_rev hm1 e1) (fun _ _ z => z) h⟩⟩
def enumD (l : List D) : List D := l.mapIdx fun i d => .tup [.int (i : Nat), d]
theorem enumD_length {l : List D} : (enumD l).length = l.length := by unfold enumD; simp
theorem enumD_get {l : List D} {i : Nat} {d : D} (h : (enumD l)[i]? = some d) : ∃ e, l[i]? = some e ∧ d = .tup [.int (i : Nat), e] := by
  unfold enumD at h
  rw [List.getElem?_mapIdx] at h
  cases e : l[i]? with
  | none => rw [e] at h; cases h
  | some y => rw [e] at h; exact ⟨y, rfl, (Option.some.inj h).symm⟩
theorem walk_enum {q : Addr} {l : List D} {H0 : Hp} : Walk3 X.K cl H0 (Ite X.K q) (enumD l) fun m => RL m q l := fun i H m e0 hm h hi => by
  obtain ⟨vs, q1, q2⟩ := hm.rl h
  refine ⟨fun e => ⟨vs, q1, by rw [enumD_length] at e; rw [← q2.length]; omega⟩, fun d hd => ?_⟩
  obtain ⟨y, h1, rfl⟩ := enumD_get hd
  obtain ⟨v, e1, r1⟩ := q2.get h1
  refine ⟨⟨vs, v, q1, e1⟩, fun z H' ⟨T, u, ez, hT, eH, hu⟩ => ?_⟩
  subst ez eH
  have f1 := hu vs q1
  rw [e1] at f1; cases f1
  exact ⟨rep_tup hT ⟨_, _, rfl, rfl, _, _, rfl, r1, rfl⟩, hm.hid hT, Ext.new hT⟩
def iEn (R : TA3) : TI3 := fun s m k x => R s m (fun ds m1 => ∃ q l, ds = [.ref q] ∧ RL m1 q l ∧ k (enumD l) (fun m => RL m q l) m1) x
theorem qi_enum {elts : List Expr} {kk : Nat} {tpos : Pos} (hg : Gl X "enumerate") (hm : X.mg "enumerate" = none) (ha : QA X cl W [a] R) (hs : starEach [a] X.env = [(false, eval a X.env)]) : QI X cl W (.Tuple elts kk tpos) (.Call (.Name "enumerate" p) [a] [] pos) (iEn R) :=
  ⟨fun s m k k' x x' hk hx h => ha.mono _ _ _ _ _ _ (fun ds m1 ⟨q, l, e, z, w⟩ => ⟨q, l, e, z, hk _ _ _ w⟩) hx h,
   PI.imp (pi_enum hg hm ha.run hs) fun σ H Q ⟨s, m, h1, h2, h⟩ => ⟨s, m, h1, h2, ha.mono _ _ _ _ _ _ (fun ds m1 ⟨q, l, e, z, w⟩ vs H1 r hm1 e1 => by
    subst e
    obtain ⟨v, rfl, y⟩ := reps1 r
    cases y
    obtain ⟨us, q1, q2⟩ := hm1.rl z
    exact ⟨q, us, rfl, q1, w _ H1 walk_enum hm1 e1⟩) (fun _ _ z => z) h⟩⟩
end
section
variable {R : TA3} {s : S3} {m : Mp} {x : X3} {ki : List D → (Mp → Prop) → Mp → Prop} {l : List D} {p : Addr}
theorem x_irv (h : R s m (fun ds m1 => ∃ q l, ds = [.ref q] ∧ RL m1 q l ∧ ki l.reverse (fun m => RL m q l) m1) x) : iRv R s m ki x := h
theorem x_ien (h : R s m (fun ds m1 => ∃ q l, ds = [.ref q] ∧ RL m1 q l ∧ ki (enumD l) (fun m => RL m q l) m1) x) : iEn R s m ki x := h
theorem x_irL (h1 : RL m p l) (h : ki l.reverse (fun m => RL m p l) m) : ∃ q l', [D.ref p] = [.ref q] ∧ RL m q l' ∧ ki l'.reverse (fun m => RL m q l') m := ⟨p, l, rfl, h1, h⟩
theorem x_ieL (h1 : RL m p l) (h : ki (enumD l) (fun m => RL m p l) m) : ∃ q l', [D.ref p] = [.ref q] ∧ RL m q l' ∧ ki (enumD l') (fun m => RL m q l') m := ⟨p, l, rfl, h1, h⟩
end
/-! isinstance(x, (int, str)) -/
def anyK (t : String) : List String → Option Bool
  | [] => some false
  | c :: cs => match kitB t c with
    | some true => some true
    | some false => anyK t cs
    | none => none
theorem anyK_kit {K : PySem.W.Frag} {t : String} : ∀ {ts : List String} {b : Bool}, anyK t ts = some b → PySem.W.kitAny K (.type t) (ts.map Value.type) = some b
  | [], b, h => by cases h; exact kitAny_nil
  | c :: cs, b, h => by
    unfold anyK at h
    cases e : kitB t c with
    | none => rw [e] at h; cases h
    | some r =>
      rw [e] at h
      cases r with
      | true => cases h; exact kitAny_cons (kit_ty e) (fun z => by cases z) (fun _ => rfl)
      | false => exact kitAny_cons (kit_ty e) (fun _ => anyK_kit h) (fun z => by cases z)
structure QTys (X : Cx) (es : List Expr) (ts : List String) : Prop where
  run : PA X es (fun _ H Q => Q (ts.map V.ty) H)
section
variable {X : Cx} {cl : Cl} {W : WX} {a : Expr} {es : List Expr} {A : TE3} {p p2 pos : Pos}
theorem ts_nil : QTys X [] [] := ⟨PA.imp pa_nil fun σ H Q h => h⟩
theorem ts_cons {x : Str} {T : String} {ts : List String} (hv : bootBuiltins x = some (.type T)) (hn : x ≠ "__name__") (hdb : (x == ("__debug__" : Str)) = false) (hg : Gl X x) (hm : X.mg x = none) (r : QTys X es ts)
    (hs : starEach (.Name x p :: es) X.env = (false, eval (.Name x p) X.env) :: starEach es X.env) : QTys X (.Name x p :: es) (T :: ts) :=
  ⟨PA.imp (pa_cons (pe_bltn (v := V.ty T) hg hm hv rfl hn hdb) r.run hs) fun σ H Q h => h⟩
def eIsT (A : TE3) (ts : List String) : TE3 := fun s m k x => A s m (fun d m1 => ∃ t b, TyD m1 d t ∧ anyK t ts = some b ∧ k (.bl b) m1) x
theorem paired_ty : ∀ ts : List String, Paired ClsV (ts.map V.ty) (ts.map Value.type)
  | [] => .nil
  | t :: ts => .cons (.ty t) (paired_ty ts)
theorem q_ist {k0 : Nat} {ts : List String} (hg : Gl X "isinstance") (hm : X.mg "isinstance" = none) (ha : QE X cl W a A) (hc : QTys X es ts) (hl : ts.length ≤ 1000)
    (h1 : starEach [a, .Tuple es k0 p2] X.env = (false, eval a X.env) :: starEach [.Tuple es k0 p2] X.env) (h2 : starEach [.Tuple es k0 p2] X.env = (false, eval (.Tuple es k0 p2) X.env) :: starEach [] X.env) (hpl : (backTo pos (starEach [.Tuple es k0 p2] X.env)).any (·.1) = false) :
    QE X cl W (.Call (.Name "isinstance" p) [a, .Tuple es k0 p2] [] pos) (eIsT A ts) := by
  refine ⟨fun s m k k' x x' hk hx q => ha.mono _ _ _ _ _ _ (fun d m1 ⟨t, b, z1, z2, z3⟩ => ⟨t, b, z1, z2, hk _ _ z3⟩) hx q, ?_⟩
  refine PE.imp (pe_callB call_isiT hg hm (by decide +kernel) (pa_cons ha.run (pa_cons (pe_tup hc.run) pa_nil h2) h1) (by decide) (by decide) h1 hpl) fun σ H Q ⟨s, m, hs, hm, q⟩ => ?_
  refine ⟨s, m, hs, hm, ha.mono _ _ _ _ _ _ (fun d m1 ⟨t, b, z1, z2, z3⟩ v H1 r hm1 ee => ?_) (fun _ _ z => z) q⟩
  show (ts.map V.ty).length ≤ sizeLine ∧ ∀ p, H1 p = none → rIsiT X.K [v, .ref p] (upd H1 p (.tup (ts.map V.ty))) Q
  refine ⟨?_, fun tp htp => ?_⟩
  · rw [List.length_map]
    exact Nat.le_trans hl (by decide)
  have e2 := Ext.new (o := .tup (ts.map V.ty)) htp
  have hm2 := hm1.hid (u := .tup (ts.map V.ty)) htp
  exact ⟨v, tp, _, .type t, _, b, rfl, upd_same, paired_ty ts, z1.up (r.mono e2) hm2, anyK_kit z2, z3 _ _ rfl hm2 (ee.trans e2)⟩
end
section
variable {A : TE3} {s : S3} {m : Mp} {k : K3} {x : X3} {ts : List String} {d : D} {t : String} {b : Bool}
theorem x_ist (h : A s m (fun d m1 => ∃ t b, TyD m1 d t ∧ anyK t ts = some b ∧ k (.bl b) m1) x) : eIsT A ts s m k x := h
theorem xf_istT {Z : Bool → Prop} (h0 : TyD m d t) (h1 : anyK t ts = some true) (h : Z true) : ∃ t b, TyD m d t ∧ anyK t ts = some b ∧ Z b := ⟨t, true, h0, h1, h⟩
theorem xf_istF {Z : Bool → Prop} (h0 : TyD m d t) (h1 : anyK t ts = some false) (h : Z false) : ∃ t b, TyD m d t ∧ anyK t ts = some b ∧ Z b := ⟨t, false, h0, h1, h⟩
theorem xf_ist {Z : Bool → Prop} (h0 : TyD m d t) (h1 : anyK t ts = some b) (h : Z b) : ∃ t b, TyD m d t ∧ anyK t ts = some b ∧ Z b := ⟨t, b, h0, h1, h⟩
end
end PV

/-! A list comprehension whose element may raise. -/
namespace PV
open PySem L2 PyProof.Rows
section
variable {M : Model} {A : Around} {E : Value → Shared → Prop} {env : Env} {outer l : List Env} {B G : Heap} {L C e : Addr} {Z : Obj → Prop} {s : Shared}
/-- held by another frame: noted by this one -/
theorem note_other (hZ : HandSPX.Steady Z) (hfr : A.frames = some (env :: outer)) (hf : env.frame = some L) (hne : C ≠ L) (hh : HandSPX.HeldZ B (env :: outer) e Z C s.heap)
    {Q : Unit → Shared → Prop} (hQ : ∀ h', HandSPX.HeldZ B (env :: outer) e Z L h' → s.heap.UpToSlots h' → Q () { s with heap := h' }) : wpAny M A (noteFrame (.ref e) env) Q E s := by
  obtain ⟨st, na, ff, o1, v1, T, o2, v2, g1, z1, d1, i1, nT, Te, g2, d2, i2⟩ := hh
  unfold noteFrame
  simp only [hf]
  refine wpAny_bind (wpAny_field g1 d1 i1 ?_)
  rw [if_pos (show (Value.ref T != .none) = true by simp)]
  refine wpAny_bind (wpAny_field g2 d2 i2 ?_)
  rw [if_neg (show ¬ ((rawInt C == rawInt L) = true) from fun z => hne (Int.ofNat.inj (by simpa [rawInt] using z)))]
  refine wpAny_bind (wpAny_setField g2 d2 (Array.getElem?_eq_some_iff.mp i2).1 ?_)
  have kp : ∀ b, b ≠ T → (s.heap.update T (Obj.mapFields (·.setIfInBounds 3 Value.none))).get? b = s.heap.get? b := fun b n => Heap.get?_update_other _ _ n.symm
  have nr : ∀ b o, s.heap.get? b = some o → (∀ w, o.data ≠ .fields w) → b ≠ T := fun b o q n z => by rw [z, g2] at q; cases q; exact n _ d2
  refine HandSPX.wpAny_entryZ hZ hfr (ff.of_keeps fun b o q n => ⟨o, (kp b (nr b o q n)).trans q, rfl⟩) hf ((kp e Te.symm).trans g1) (fun b o q => (kp b fun z => by rw [z, nT] at q; cases q).trans (st b o q)) na d1 (Array.getElem?_eq_some_iff.mp i1).1 z1 fun h' hn => ?_
  obtain ⟨y1, y2, y3, y4⟩ := hn
  exact hQ h' ⟨y1, na, y2, y3⟩ fun b o q n => y4 b o ((kp b (nr b o q n)).trans q) n
theorem frames_base {h : Heap} (k : ∀ b, B.get? b = none → G.get? b = none) : ∀ {l : List Env}, h.FunFrames B l → h.FunFrames G l
  | [], _ => True.intro
  | _ :: _, ⟨a, ⟨L, o, b, c, d⟩, r⟩ => ⟨a, ⟨L, o, b, k L c, d⟩, frames_base k r⟩
end
section
variable {X : Cx} {pins : List (Addr × Obj)} {σ : L2.St} {H : Hp} {s : Shared} {W : WX}
/-- a block's context that lets exceptions out -/
abbrev blkX (X : Cx) (s : Shared) (H : Hp) (scope : Scope) (cenv : Env) (fp : List Addr) (xe : Value → Shared → Prop) : Cx := { X.blk s H scope cenv fp with xe := xe }
/-- the wish at the block's start -/
def wAt (W : WX) (σ : L2.St) : WX := fun c d _ H => W c d σ H
theorem inv_xe {scope : Scope} {cenv : Env} {fp : List Addr} {xe : Value → Shared → Prop} {p2 : List (Addr × Obj)} {σ2 : L2.St} {H2 : Hp} {s2 : Shared} (I : Inv (X.blk s H scope cenv fp) p2 σ2 H2 s2) : Inv (blkX X s H scope cenv fp xe) p2 σ2 H2 s2 := by
  obtain ⟨ok, a1, a2, a3, a4, a5, a6, a7, a8, a9, a10⟩ := I
  refine ⟨?_, a1, a2, a3, a4, a5, a6, a7, a8, a9, a10⟩
  obtain ⟨b1, b2, b3, b4, b5, b6, b7, b8, b9, b10, b11, b12, b13, b14, b15, b16, b17, b18⟩ := ok
  exact ⟨b1, b2, b3, b4, b5, b6, b7, b8, b9, b10, b11, b12, b13, b14, b15, b16, b17, b18⟩
/-- an exception in the block's air leaves the block -/
theorem comp_out {scope : Scope} {cenv : Env} {fp : List Addr} {xe : Value → Shared → Prop} (hst : X.stack = X.env :: X.outer) (hef : X.env.frame = some X.env.locals) (tk : Takes X W) (I : Inv X pins σ H s)
    (hfp : ∀ b ∈ fp, FpOk X pins H b) (hC : s.heap.objs.size ≤ cenv.locals) (hcf : cenv.frame = X.env.frame) {u : Value} {s' : Shared} (x : XE (blkX X s H scope cenv fp xe) (wAt W σ) u s') :
    notedBy (model X.prog X.w) X.A cenv (CompFails (model X.prog X.w) X.A X.xe cenv) u s' := by
  obtain ⟨a, B, sI, pb, σb, Hb, cls, d, rfl, J, nb, up, sky, na, os, ag, w⟩ := x
  have w : W cls d σ Hb := w
  have I7 : Inv X pins σ Hb sI := I.call' (ch := fp) J.os J.base J.hok J.bare fun b hb => ⟨(hfp b hb).2.2.2.1, (hfp b hb).2.1, (hfp b hb).2.2.2.2.1, (hfp b hb).2.2.2.2.2⟩
  obtain ⟨m0, nsI, -⟩ := J.loc
  have nsI : sI.heap.Ns cenv.locals m0 := nsI
  have nC : Hb cenv.locals = none := J.free
  have fpC : FpOk X pins Hb cenv.locals := I.fpOk hC nC
  have neL : cenv.locals ≠ X.env.locals := fpC.2.1
  have nF : cenv.locals ∉ frs X.stack := fun z => by
    rcases List.mem_cons.mp (I.stkSub _ z) with z | z
    · exact neL z
    · exact fpC.2.2.1 z
  obtain ⟨o0, _, _, q0, d0, _⟩ := id nsI
  have bC : B.get? cenv.locals = some o0 := nb _ _ q0 nF
  have hfr : X.A.frames = some (X.env :: X.outer) := I.ok.frames.trans (congrArg some hst)
  have fin : ∀ h1, HandSPX.HeldZ B (X.env :: X.outer) a (Zc cls d) X.env.locals h1 → s'.heap.UpToSlots h1 → CompFails (model X.prog X.w) X.A X.xe cenv (.ref a) { s' with heap := h1 } := fun h1 hh up1 => by
    obtain ⟨st, na1, ff, o1, v1, T, o2, v2, g1, z1, d1, i1, nT, Te, g2, d2, i2⟩ := hh
    refine ⟨m0, (up.trans up1).ns nsI, fun h2 m2 n2 sb => ?_⟩
    have aC : a ≠ cenv.locals := fun z => by rw [z, bC] at na1; cases na1
    have TC : T ≠ cenv.locals := fun z => by rw [z, bC] at nT; cases nT
    obtain ⟨G, r1, r2⟩ := restrict h2 fun b => (B.get? b).isSome
    have gN : ∀ b, B.get? b = none → G.get? b = none := fun b e => r2 b (by rw [e]; rfl)
    have gS : ∀ b o, B.get? b = some o → G.get? b = h2.get? b := fun b o e => r1 b (by rw [e]; rfl)
    have stG : G.StaysIn h2 := fun b o e => by
      cases q : B.get? b with
      | none => rw [gN b q] at e; cases e
      | some o' => rw [gS b o' q] at e; exact e
    have hh2 : HandSPX.HeldZ G (X.env :: X.outer) a (Zc cls d) X.env.locals h2 :=
      ⟨stG, gN a na1, frames_base gN (Heap.FunFrames.sameBut sb n2 ff), o1, v1, T, o2, v2, (sb.2 a aC).trans g1, z1, d1, i1, gN T nT, Te, (sb.2 T TC).trans g2, d2, i2⟩
    obtain ⟨oC, _, _, qC, dC, _⟩ := id n2
    unfold PySem.passOn
    refine wpAny_bind (wpAny_field ((sb.2 a aC).trans g1) d1 i1 ?_)
    rw [if_neg (show ¬ ((Value.ref T == .none) = true) by simp), hcf, hef]
    refine wpAny_bind (HandSPX.setFlight_onZ hh2 fun h3 hh3 up3 => wpAny_throw ?_)
    have qC3 : h3.get? cenv.locals = some oC := hh3.1 _ _ ((gS _ _ bC).trans qC)
    have e1 : (sI.heap.update cenv.locals fun _ => oC).get? cenv.locals = some oC := Heap.get?_update_self _ q0 (by cases oC; cases dC; rfl)
    have e2 : ∀ b, b ≠ cenv.locals → (sI.heap.update cenv.locals fun _ => oC).get? b = sI.heap.get? b := fun b n => Heap.get?_update_other _ _ n.symm
    have I8 : Inv X pins σ Hb { sI with heap := sI.heap.update cenv.locals fun _ => oC } := I7.turned (t' := sI.toks) (it := cenv.locals) (fun b o n q => (e2 b n).trans q) nC neL fpC.2.2.2.1 fpC.2.2.2.2.1 fpC.2.2.2.2.2
    refine tk _ _ ⟨a, G, _, pins, σ, Hb, cls, d, rfl, I8, fun b o q n => ?_, fun b o q n => ?_, .inr (.inr (by rw [hst]; exact hh3)), na, os, ag, w⟩
    · by_cases z : b = cenv.locals
      · subst z
        rw [e1] at q; cases q
        exact (gS _ _ bC).trans qC
      · rw [e2 b z] at q
        have q' := nb b o q n
        exact (gS b o q').trans ((sb.2 b z).trans (st b o q'))
    · by_cases z : b = cenv.locals
      · subst z
        rw [e1] at q; cases q
        exact ⟨_, qC3⟩
      · rw [e2 b z] at q
        obtain ⟨sl1, q1⟩ := (up.trans up1) b o q n
        obtain ⟨sl2, q2⟩ := up3 b _ ((sb.2 b z).trans q1) n
        exact ⟨sl2, q2⟩
  show wpAny _ _ (noteFrame (.ref a) cenv) _ _ s'
  rw [noteFrame_env _ hcf]
  have sky : Sky B X.stack a (Zc cls d) cenv.locals s'.heap := sky
  rw [hst] at sky
  rcases sky with ⟨k1, k2, k3, k4, k5, k6, k7, k8, k9⟩ | fl | hd
  · exact HandSPX.look_newZ Zc.steady hfr k3 hef k6 k1 k2 k8 k9 k7 fin
  · exact HandSPX.looks_onZ Zc.steady hfr hef fl fin
  · exact note_other Zc.steady hfr hef neL hd fin
end
end PV

namespace PV
open PySem L2 PyProof.Rows
/-- a block that has no cells of its own: its names' places -/
structure BlkNames (X : Cx) (scope : Scope) (ce : Env) : Prop where
  sub : ∀ y c, ce.cells.lookup y = some c → X.env.cells.lookup y = some c
  has : ∀ y, (y, NameKind.free) ∈ scope.names → ∃ c, ce.cells.lookup y = some c
theorem blk_names {X : Cx} {pins : List (Addr × Obj)} {σ : L2.St} {H : Hp} {s : Shared} {scope : Scope} {own : List (Str × Nat)} {C : Addr} (I : Inv X pins σ H s) (ok : BlkOk X.N X.env.scope scope own) :
    BlkNames X scope (compEnvC scope (cloFrom X.env.cells scope.names []) C X.env) := by
  constructor
  · intro y c e
    rcases cloFrom_mem (PySem.mem_of_lookup (show (cloFrom X.env.cells scope.names []).lookup y = some c from e)) with h | ⟨h, rfl⟩
    · cases h
    · obtain ⟨c', e'⟩ := I.ok.has y (ok.free _ h rfl)
      rw [e']; rfl
  · intro y hy
    exact mem_lookup (cloFrom_has hy)
/-- what a name of the block is: one of its own, or one that stands around it -/
theorem blk_kind {X : Cx} {scope : Scope} {C : Addr} {cl : List (Str × Addr)} {y : Str} {k : NameKind} (hcell : ∀ z ∈ scope.names, z.2 ≠ .cell) (h : (compEnvC scope cl C X.env).kindOf y = some k) :
    k = .cell ∨ k = .free → (y, NameKind.free) ∈ scope.names := by
  intro hk
  obtain ⟨k', e, r⟩ := lookup_relS (sc := X.env.scope) (names := scope.names) (x := y) (k := k) h
  have m := PySem.mem_of_lookup e
  rcases r with rfl | ⟨rfl, -⟩
  · rcases hk with rfl | rfl
    · exact absurd rfl (hcell _ m)
    · exact m
  · exact m
/-- where a block begins (no cells of its own): the ground is the state at the iterator -/
theorem blk_begins {X : Cx} {pins : List (Addr × Obj)} {σ : L2.St} {H : Hp} {s2 s3 : Shared} {scope : Scope} {own : List (Str × Nat)} {fp : List Addr} {D C : Addr} {xe : Value → Shared → Prop} (I : Inv X pins σ H s2) (ok : BlkOk X.N X.env.scope scope own)
    (hN : X.N.Nodup) (hcell : ∀ z ∈ scope.names, z.2 ≠ .cell) (hb : CompBegins s2 D C s3) (hfp : ∀ b ∈ fp, FpOk X pins H b ∧ b < s2.heap.objs.size) :
    Inv (blkX X s2 H scope (compEnvC scope (cloFrom X.env.cells scope.names []) C X.env) (D :: fp) xe) [] (wipe σ (own.map (·.2))) H s3 := by
  obtain ⟨⟨h3, tk, rfl⟩, old, nD, nC, neDC, ns⟩ := hb
  have nm := blk_names (C := C) I ok
  generalize hce : compEnvC scope (cloFrom X.env.cells scope.names []) C X.env = ce at nm ⊢
  have eL : ce.locals = C := by subst hce; rfl
  have knd : ∀ {y k}, ce.kindOf y = some k → k = .cell ∨ k = .free → (y, NameKind.free) ∈ scope.names := fun h => by subst hce; exact blk_kind hcell h
  have low : ∀ y c, ce.cells.lookup y = some c → c < s2.heap.objs.size := fun y c e => by
    obtain ⟨w, z⟩ := I.cell y c (nm.sub y c e)
    exact z.lt
  have ground : ∀ b ∈ D :: fp, FpOk X pins H b ∧ b ≠ C := fun b m => by
    rcases List.mem_cons.mp m with rfl | m
    · exact ⟨I.fpOk nD (I.hok.fresh nD), neDC⟩
    · exact ⟨(hfp b m).1, Nat.ne_of_lt (Nat.lt_of_lt_of_le (hfp b m).2 nC)⟩
  refine { ok := ?ok, os := rfl, bare := I.bare, base := Un.kept old, loc := ⟨fun _ => none, by rw [eL]; exact ns, ?loc⟩, cell := (fun y c e => ?cell), free := (by rw [eL]; exact I.hok.fresh nC), freeC := fun y c e => I.freeC y c (nm.sub y c e), pin := (fun p m => absurd m (by simp)), hok := I.hok.kept old, len := (by rw [wipe_length]; exact I.len) }
  case cell =>
    obtain ⟨w, z⟩ := I.cell y c (nm.sub y c e)
    exact ⟨w, z.keeps old⟩
  case loc =>
    intro i y u hi hu vis
    obtain ⟨hu, fresh⟩ := wipe_some hu
    obtain ⟨m, -, look⟩ := I.loc
    have fr : (y, NameKind.free) ∈ scope.names ∧ (ce.kindOf y = some .cell ∨ ce.kindOf y = some .free) := by
      rcases vis with v | v | v
      · subst hce
        obtain ⟨k', e, r⟩ := lookup_relS (sc := X.env.scope) (names := scope.names) (x := y) (k := .local) v
        rcases r with rfl | ⟨rfl, r⟩
        · rcases ok.own _ (PySem.mem_of_lookup e) (.inl rfl) with z | z
          · obtain ⟨q, q1, q2⟩ := List.mem_map.mp z
            have := ok.ix q q1
            rw [show q.1 = y from q2] at this
            exact absurd (List.mem_map.mpr ⟨q, q1, nodup_ix hN this hi⟩) fresh
          · exact absurd (List.mem_of_getElem? hi) z
        · cases r
      · exact ⟨knd v (.inl rfl), .inl v⟩
      · exact ⟨knd v (.inr rfl), .inr v⟩
    have outer := ok.free _ fr.1 rfl
    obtain ⟨w, r, q⟩ := look i y u hi hu (outer.elim (fun z => .inr (.inl z)) fun z => .inr (.inr z))
    refine ⟨w, r, .inr ⟨fr.2, ?_⟩⟩
    obtain ⟨c, e⟩ := nm.has y fr.1
    rcases q with ⟨z, -⟩ | ⟨-, c', e', z⟩
    · have z : X.env.scope.names.lookup y = some .local := z
      rcases outer with o | o <;> (rw [o] at z; cases z)
    · have := nm.sub y c e
      rw [e'] at this
      obtain rfl : c' = c := Option.some.inj this
      exact ⟨_, e, z.keeps old⟩
  case ok =>
    have o := I.ok
    refine { mod := o.mod, kind := (by subst hce; exact ok.kind), glob := (by subst hce; exact o.glob), blt := (by subst hce; exact o.blt), above := (by show _ ≤ ce.locals; rw [eL]; exact nC), inj := fun x y c a b => o.inj x y c (nm.sub x c a) (nm.sub y c b), has := (fun y h => ?has), cab := (fun y c h _ => ?cab), hd := o.hd, frames := o.frames, stk := .inl rfl, exf := fun b m => ⟨(by show b ≠ ce.locals; rw [eL]; exact (ground b m).2), fun y c e => (ground b m).1.2.2.2.2.1 y c (nm.sub y c e)⟩, bs := I.bs, bsz := Nat.le_trans o.bsz I.sz, noex := (fun b ob e m => ?noex), exfs := (fun b m z => ?exfs), funs := I.stack, frf := I.stkFree }
    case has =>
      rcases h with h | h
      · exact nm.has y (knd h (.inl rfl))
      · exact nm.has y (knd h (.inr rfl))
    case cab =>
      have h : scope.names.lookup y = some .cell := by simpa using (show (scope.names.lookup y == some NameKind.cell) = true from h)
      exact absurd rfl (hcell _ (PySem.mem_of_lookup h))
    case noex =>
      rcases (ground b m).1.2.2.2.1 with z | z
      · exact o.noex b ob e z
      · exact absurd (Nat.lt_of_lt_of_le (Heap.lt_size e) (Nat.le_trans o.bsz z)) (Nat.lt_irrefl _)
    case exfs =>
      rcases List.mem_cons.mp (I.stkSub b z) with z | z
      · exact (ground b m).1.2.1 z
      · exact (ground b m).1.2.2.1 z
end PV

namespace PV
open PySem L2 PyProof.Rows
/-- a list of n things is walked, whatever things of it are exchanged meanwhile -/
def StV (I l : Addr) (n i : Nat) (h : Heap) : Prop := h.IsListIter I l i ∧ ∃ its : Array Value, its.size = n ∧ h.IsList l its
def YdV (l : Addr) (i : Nat) (v : Value) (h : Heap) : Prop := ∃ its : Array Value, its[i]? = some v ∧ h.IsList l its
theorem goes_var {prog : Program} {w : World} {A : Around} {target : Expr} (hh : A.handled = none) {I l : Addr} (hne : l ≠ I) (n : Nat) : Goes prog w A target I [I, l] [I] n (YdV l) (StV I l n) := by
  have rule := fun its : Array Value => Goes.list (prog := prog) (w := w) (target := target) hh I l hne its
  constructor
  · exact (rule #[]).sub
  · rintro i h h' ⟨a, its, e, b⟩ keep
    obtain ⟨a', b'⟩ := (rule its).frame i h h' ⟨a, b⟩ keep
    exact ⟨a', its, e, b'⟩
  · rintro i s Q E hi ⟨a, its, rfl, b⟩ hQ
    refine (rule its).goes i s Q E hi ⟨a, b⟩ fun v h' tk hv st keep ht => ?_
    exact hQ v h' tk ⟨its, hv, st.2⟩ ⟨st.1, its, rfl, st.2⟩ keep ht
  · rintro s Q E ⟨a, its, rfl, b⟩ hQ
    exact (rule its).stops s Q E ⟨a, b⟩ hQ
  · rintro i s Q E ⟨a, its, rfl, b⟩ q
    exact (rule its).self i s Q E ⟨a, b⟩ q
/-- [elt for x in it], x in slot i; what is told so far is no part of the memory till the end; the element may raise -/
def eLcG (T : TI3) (i : Nat) (B : TE3) : TE3 := fun s m k x => T s m (fun l R m1 => ∃ P : List D → Mp → Prop, P [] m1 ∧ (∀ acc m, acc.length ≤ l.length → P acc m → R m) ∧
  (∀ acc d m, l[acc.length]? = some d → P acc m → B (s.set i (some d)) m (fun y m4 => P (acc ++ [y]) m4) x) ∧
  ∀ acc m, acc.length = l.length → P acc m → ∀ q, m q = none → k (.ref q) (mset m q (.lst acc))) x
theorem mono_lcG {T : TI3} {B : TE3} {i : Nat} (ha : MonoI T) (hb : MonoE B) : MonoE (eLcG T i B) := fun s m k k' x x' hk hx h =>
  ha _ _ _ _ _ _ (fun l R m1 ⟨P, a, b, c, d⟩ => ⟨P, a, b, fun acc d m q z => hb _ _ _ _ _ _ (fun _ _ h => h) hx (c acc d m q z), fun acc m q z w hw => hk _ _ (d acc m q z w hw)⟩) hx h
theorem x_lcG {T : TI3} {B : TE3} {i : Nat} {s : S3} {m : Mp} {k : K3} {x : X3} (h : T s m (fun l R m1 => ∃ P : List D → Mp → Prop, P [] m1 ∧ (∀ acc m, acc.length ≤ l.length → P acc m → R m) ∧
  (∀ acc d m, l[acc.length]? = some d → P acc m → B (s.set i (some d)) m (fun y m4 => P (acc ++ [y]) m4) x) ∧
  ∀ acc m, acc.length = l.length → P acc m → ∀ q, m q = none → k (.ref q) (mset m q (.lst acc))) x) : eLcG T i B s m k x := h
end PV

namespace PV
open PySem L2 PyProof.Rows
/-- what a comprehension walks: the things l, from an iterator that goes on while R holds of the memory -/
structure Src (X : Cx) (cl : Cl) (tg : Expr) (it : Addr) (fp : List Addr) (l : List D) (R : Mp → Prop) (H0 : Hp) (Y : Nat → Value → Heap → Prop) (St : Nat → Heap → Prop) : Prop where
  goes : Goes X.prog X.w X.A tg it fp [it] l.length Y St
  obj : ∀ i h, St i h → ∃ o, h.get? it = some o ∧ ∀ v, o.data ≠ .cell v
  item : ∀ (Z : Cx) (pins : List (Addr × Obj)) (σ : L2.St) (H : Hp) (s : Shared) (m : Mp) (i : Nat) (v : Value) (d : D), Z.K = X.K → Inv Z pins σ H s → Ab X.K cl H m → Ext H0 H → R m → l[i]? = some d → Y i v s.heap → ∃ u, Rep X.K H d u ∧ RelV u v
  again : ∀ (Z : Cx) (pins : List (Addr × Obj)) (σ : L2.St) (H : Hp) (s : Shared) (m : Mp) (i : Nat) (h : Heap), Z.K = X.K → Inv Z pins σ H s → Ab X.K cl H m → Ext H0 H → R m → St i h → (∀ o, h.get? it = some o → s.heap.get? it = some o) → St i s.heap
section
variable {X : Cx} {cl : Cl} {W : WX} {B : TE3} {i : Nat} {x : Str} {a e : Expr} {scope : Scope} {p1 pos : Pos}
theorem in_two {α : Type} {b u v : α} (h : b ∈ [u, v]) : b = u ∨ b = v := by simpa using h
/-- the names of the block are found -/
theorem blk_clos {pins : List (Addr × Obj)} {σ : L2.St} {H : Hp} {s : Shared} (I : Inv X pins σ H s) (ok : BlkOk X.N X.env.scope scope [(x, i)]) : closureFor scope X.env = pure (cloFrom X.env.cells scope.names []) :=
  closure_ok fun y m q => (ok.free y m q).elim (fun z => I.ok.has _ (.inl z)) fun z => I.ok.has _ (.inr z)
/-- the turns of a comprehension whose element may raise: what is told so far is no part of the memory till the end -/
theorem lc_turns {pins : List (Addr × Obj)} {σ : L2.St} {H1 : Hp} {s2 : Shared} {it : Addr} {fp : List Addr} {l : List D} {R : Mp → Prop} {Y : Nat → Value → Heap → Prop} {St : Nat → Heap → Prop} {sl : S3} {m1 : Mp} {P : List D → Mp → Prop} {use : Option (Value → Sem Unit)} {Q : Value → Shared → Prop}
    (tk : Takes X W) (hst : X.stack = X.env :: X.outer) (hef : X.env.frame = some X.env.locals) (hN : X.N.Nodup) (ok : BlkOk X.N X.env.scope scope [(x, i)]) (hcell : ∀ z ∈ scope.names, z.2 ≠ .cell)
    (hg : ∀ (s : Shared) (H : Hp) (C : Addr) (cz : List (Str × Addr)) (fp : List Addr) (xe : Value → Shared → Prop), PG (blkX X s H scope (compEnvC scope cz C X.env) fp xe) (.Name x p1) (gName i))
    (hb : ∀ (s : Shared) (H : Hp) (C : Addr) (cz : List (Str × Addr)) (fp : List Addr) (xe : Value → Shared → Prop) (σ : L2.St), Takes (blkX X s H scope (compEnvC scope cz C X.env) fp xe) (wAt W σ) → QE (blkX X s H scope (compEnvC scope cz C X.env) fp xe) cl (wAt W σ) e B)
    (I2 : Inv X pins σ H1 s2) (src : Src X cl (.Name x p1) it fp l R H1 Y St) (st0 : St 0 s2.heap) (low : ∀ b ∈ fp, b < s2.heap.objs.size) (fit : FpOk X pins H1 it) (lim : l.length ≤ sizeLine) (hs0 : RepS X.K H1 sl σ) (hm1 : Ab X.K cl H1 m1)
    (P0 : P [] m1) (PR : ∀ acc m, acc.length ≤ l.length → P acc m → R m) (Pstep : ∀ acc d m, l[acc.length]? = some d → P acc m → B (sl.set i (some d)) m (fun y m4 => P (acc ++ [y]) m4) (cX X.K cl W H1 σ))
    (fin : ∀ (q : Addr) (ce : Env) (s : Shared) (H' : Hp) (acc : List D) (m : Mp), Inv X pins σ H' s → FpOk X pins H' ce.locals → (∃ mC, s.heap.Ns ce.locals mC) → Ab X.K cl H' (mset m q (.lst acc)) → Ext H1 H' → acc.length = l.length → P acc m → m q = none → compEnds (model X.prog X.w) X.A X.xe use Q (.ref q) ce (.ok .next) s) :
    LcGoes X.prog X.w X.A X.xe X.env scope (cloFrom X.env.cells scope.names []) (.Name x p1) [] e use Q (.ref it) s2 := by
  obtain ⟨oI, itAt, itOk⟩ := src.obj 0 _ st0
  have itLt := Heap.lt_size itAt
  refine ⟨it, fp, [it], l.length, Y, St, rfl, src.goes, lim, st0, low, fun D C s3 hbeg => ?_⟩
  have nD := hbeg.newD
  have nC := hbeg.newC
  have neDC := hbeg.ne
  have fitS : ∀ b ∈ [it], FpOk X pins H1 b ∧ b < s2.heap.objs.size := fun b hb => by rw [List.mem_singleton.mp hb]; exact ⟨fit, itLt⟩
  obtain ⟨xb, hxb⟩ : ∃ xb, xb = notedBy (model X.prog X.w) X.A (compEnvC scope (cloFrom X.env.cells scope.names []) C X.env) (CompFails (model X.prog X.w) X.A X.xe (compEnvC scope (cloFrom X.env.cells scope.names []) C X.env)) := ⟨_, rfl⟩
  have start := blk_begins (xe := xb) I2 ok hN hcell hbeg fitS
  have grd : ∀ b ∈ [D, it], FpOk X pins H1 b := fun b hb => by
    rcases in_two hb with rfl | rfl
    · exact I2.fpOk nD (I2.hok.fresh nD)
    · exact fit
  have pg := hg s2 H1 C (cloFrom X.env.cells scope.names []) [D, it] xb
  have pe := hb s2 H1 C (cloFrom X.env.cells scope.names []) [D, it] xb σ fun u s' z => by
    rw [hxb]; exact comp_out (cenv := compEnvC scope (cloFrom X.env.cells scope.names []) C X.env) hst hef tk I2 grd nC rfl z
  have eL : (compEnvC scope (cloFrom X.env.cells scope.names []) C X.env).locals = C := rfl
  generalize compEnvC scope (cloFrom X.env.cells scope.names []) C X.env = ce at *
  have free0 : ∀ b ∈ [D, it], H1 b = none := fun b hb => (grd b hb).1
  -- what stands between two turns: what is told so far is acc
  refine ⟨fun k ys s => ∃ H' m acc us, Inv (blkX X s2 H1 scope ce [D, it] xb) [] (wipe σ [i]) H' s ∧ (∀ b ∈ [D, it], H' b = none) ∧ Ab X.K cl H' m ∧ Ext H1 H' ∧ P acc m ∧ acc.length = k ∧ Reps X.K H' acc us ∧ Vals us ys,
    ⟨H1, m1, [], [], start, free0, hm1, Ext.refl _, P0, rfl, rfl, .nil⟩, ?keep, ?turn, ?fin⟩
  case keep =>
    rintro k ys s h' tks ⟨H', m, acc, us, J, n0, rest⟩ same -
    refine ⟨H', m, acc, us, J.turnedL (ch := [D, it]) same fun b hb => ?_, n0, rest⟩
    exact ⟨n0 b hb, (J.ok.exf b hb).1, J.ok.exfs b hb, .inl hb, (J.ok.exf b hb).2, fun q m => absurd m (by simp)⟩
  case turn =>
    rintro k v ys s hk yv st ⟨H', m, acc, us, J, n0, hm, ext, Pm, rfl, ra, va⟩ pld
    have fpo : ∀ b ∈ [D, it], FpOk (blkX X s2 H1 scope ce [D, it] xb) [] H' b := fun b hb => ⟨n0 b hb, (J.ok.exf b hb).1, J.ok.exfs b hb, .inl hb, (J.ok.exf b hb).2, fun q m => absurd m (by simp)⟩
    obtain ⟨nPl, plD⟩ := id pld
    obtain ⟨oT, gT, kT⟩ := src.obj _ _ st
    have pinned := J.pinned fpo fun b hb => by
      rcases in_two hb with rfl | rfl
      · exact ⟨_, plD, fun _ z => by cases z⟩
      · exact ⟨_, gT, kT⟩
    have hd := List.getElem?_eq_getElem hk
    obtain ⟨u, ru, rv⟩ := src.item (blkX X s2 H1 scope ce [D, it] xb) _ _ _ _ m _ v _ rfl J hm ext (PR acc m (Nat.le_of_lt hk) Pm) hd yv
    have raise : ∀ u s', xb u s' → notedBy (model X.prog X.w) X.A ce (CompFails (model X.prog X.w) X.A X.xe ce) u s' := fun u s' z => by rw [hxb] at z; exact z
    refine wpAny_mono (pg.run _ s (wipe σ [i]) H' u v (fun σ2 H2 => σ2 = (wipe σ [i]).set i (some u) ∧ H2 = H') pinned rv ⟨rfl, rfl⟩) (fun _ s4 ⟨σ4, H4, J4, e4, e5⟩ => ?_) raise
    have e5 := e5.symm
    subst e4 e5
    refine wpAny_tests_nil ?_
    rw [if_pos rfl]
    have hsl : RepS X.K H' (sl.set i (some l[acc.length])) ((wipe σ [i]).set i (some u)) := (hs0.mono ext).wipe1 ru i
    have way := pe.mono _ _ _ _ _ (cX X.K cl (wAt W σ) H' ((wipe σ [i]).set i (some u))) (fun y m6 q z H6 r hm6 e6 => (⟨y, m6, r, hm6, e6, q⟩ : ∃ y m6, Rep X.K H6 y z ∧ Ab X.K cl H6 m6 ∧ Ext H' H6 ∧ P (acc ++ [y]) m6)) (fun ex m6 q c dd H6 r hm6 e6 => q c dd H6 r hm6 (ext.trans e6)) (Pstep acc _ m hd Pm)
    refine wpAny_mono (pe.run.run _ s4 _ H' (fun z H6 => ∃ y m6, Rep X.K H6 y z ∧ Ab X.K cl H6 m6 ∧ Ext H' H6 ∧ P (acc ++ [y]) m6) J4 ⟨_, m, hsl, hm, way⟩) (fun w s6 ⟨z, H6, J6, rz, y, m6, ry, hm6, e6, P6⟩ => ?_) raise
    have stay : ∀ b ∈ [D, it], ∀ o, s.heap.get? b = some o → s6.heap.get? b = some o ∧ H6 b = none := fun b hb o q => by
      obtain ⟨q1, q2, -⟩ := J6.pin (b, o) (List.mem_append_right _ (List.mem_append_right _ (mem_pinsAt hb q)))
      exact ⟨q1, q2⟩
    have len : (acc ++ [y]).length = acc.length + 1 := by simp
    refine ⟨⟨H6, m6, acc ++ [y], us ++ [z], J6.unpinned.weak ?_ ?_, fun b hb => ?_, hm6, ext.trans e6, P6, len, (ra.mono e6).append (.one ry), va.append (.cons rz .nil)⟩, ?_, ⟨nPl, (stay D (by simp) _ plD).1⟩⟩
    · rw [List.length_set]
    · intro j c q
      have neq : j ≠ i := fun z => (wipe_some (vs := [i]) q).2 (by simp [z])
      rw [List.getElem?_set_ne neq.symm]; exact q
    · rcases in_two hb with rfl | rfl
      · exact (stay _ (by simp) _ plD).2
      · exact (stay _ (by simp) _ gT).2
    · exact src.again (blkX X s2 H1 scope ce [D, it] xb) _ _ _ _ m6 _ _ rfl J6 hm6 (ext.trans e6) (PR _ _ (by rw [len]; exact hk) P6) st fun o q => (stay it (by simp) o q).1
  case fin =>
    rintro ys s ⟨H', m, acc, us, J, n0, hm, ext, Pm, el, ra, va⟩ ⟨cD, plD⟩
    have J0 : Inv X pins σ H' s := I2.call' (ch := [D, it]) J.os J.base J.hok J.bare fun b hb => ⟨(grd b hb).2.2.2.1, (grd b hb).2.1, (grd b hb).2.2.2.2.1, (grd b hb).2.2.2.2.2⟩
    have fD : FpOk X pins H' D := I2.fpOk nD (n0 D (by simp))
    have nG : X.s_0.heap.get? D = none := Option.eq_none_iff_forall_ne_some.mpr fun o q => absurd (Nat.lt_of_lt_of_le (Heap.lt_size q) (Nat.le_trans I2.sz nD)) (Nat.lt_irrefl _)
    have J1 := inv_adopt (o := .lst us) J0 fD.1 fD.2.1 fD.2.2.2.2.1 fD.2.2.2.2.2 nG ⟨by rw [← ra.length, el]; exact lim, ys, cD, va, plD⟩
    have freeC : upd H' D (.lst us) ce.locals = none := by rw [eL, upd_ne neDC.symm, ← eL]; exact J.free
    obtain ⟨mC, nsC, -⟩ := J.loc
    have m0 := hm.free (n0 D (by simp))
    exact fin D ce s _ acc m J1 (I2.fpOk (by rw [eL]; exact nC) freeC) ⟨mC, nsC⟩ (new_lst hm (n0 D (by simp)) ra) (ext.trans (Ext.new (n0 D (by simp)))) el Pm m0
/-! ### sources -/
/-- an iterator has come, with what it walks -/
def SrcAt (X : Cx) (cl : Cl) (pins : List (Addr × Obj)) (σ : L2.St) (tg : Expr) (H : Hp) (G : List D → (Mp → Prop) → Mp → Prop) (itv : Value) (s2 : Shared) : Prop :=
  ∃ it fp l R Y St H1 m1, itv = .ref it ∧ Inv X pins σ H1 s2 ∧ Src X cl tg it fp l R H1 Y St ∧ St 0 s2.heap ∧ (∀ b ∈ fp, b < s2.heap.objs.size) ∧ FpOk X pins H1 it ∧ l.length ≤ sizeLine ∧ Ab X.K cl H1 m1 ∧ Ext H H1 ∧ G l R m1
structure QSr (X : Cx) (cl : Cl) (W : WX) (tg a : Expr) (T : TI3) : Prop where
  mono : MonoI T
  run : ∀ (pins : List (Addr × Obj)) (s : Shared) (σ : L2.St) (H : Hp) (sl : S3) (m : Mp) (G : List D → (Mp → Prop) → Mp → Prop), Inv X pins σ H s → RepS X.K H sl σ → Ab X.K cl H m → T sl m G (cX X.K cl W H σ) →
    wpAny (model X.prog X.w) X.A (eval a X.env) (fun v s1 => wpAny (model X.prog X.w) X.A (pyIter v) (SrcAt X cl pins σ tg H G) X.xe s1) X.xe s
/-! ### the comprehension, told or kept under a name -/
theorem q_lcG {T : TI3} (tk : Takes X W) (hst : X.stack = X.env :: X.outer) (hef : X.env.frame = some X.env.locals) (hN : X.N.Nodup) (ha : QSr X cl W (.Name x p1) a T) (ok : BlkOk X.N X.env.scope scope [(x, i)]) (hcell : ∀ z ∈ scope.names, z.2 ≠ .cell)
    (hg : ∀ (s : Shared) (H : Hp) (C : Addr) (cz : List (Str × Addr)) (fp : List Addr) (xe : Value → Shared → Prop), PG (blkX X s H scope (compEnvC scope cz C X.env) fp xe) (.Name x p1) (gName i))
    (hb : ∀ (s : Shared) (H : Hp) (C : Addr) (cz : List (Str × Addr)) (fp : List Addr) (xe : Value → Shared → Prop) (σ : L2.St), Takes (blkX X s H scope (compEnvC scope cz C X.env) fp xe) (wAt W σ) → QE (blkX X s H scope (compEnvC scope cz C X.env) fp xe) cl (wAt W σ) e B)
    (hfs : ∀ z, foldedSetIterable a X.env z = pure z) : QE X cl W (.ListComp e [⟨.Name x p1, a, [], 0⟩] scope pos) (eLcG T i B) := by
  have mB : MonoE B := (hb X.s_0 X.H_0 0 [] [] (fun _ _ => True) [] fun _ _ _ => True.intro).mono
  refine ⟨mono_lcG ha.mono mB, ⟨fun pins s0 σ H Q I0 ⟨sl, m0, hs0, hm0, h⟩ => ?_⟩⟩
  refine ListComp_goes (blk_clos I0 ok) hcell ok.kind (fun y m q => (ok.uniq y m).trans (congrArg some q)) ?_ hfs
  refine wpAny_mono (ha.run pins s0 σ H sl m0 _ I0 hs0 hm0 h) (fun v s1 h1 => wpAny_mono h1 (fun itv s2 h2 => ?_) fun _ _ z => z) fun _ _ z => z
  obtain ⟨it, fp, l, R, Y, St, H1, m1, rfl, I2, src, st0, low, fit, lim, hm1, e1, P, P0, PR, Pstep, Pend⟩ := h2
  refine lc_turns tk hst hef hN ok hcell hg hb I2 src st0 low fit lim (hs0.mono e1) hm1 P0 PR (fun acc d m q z => mB _ _ _ _ _ _ (fun _ _ h => h) (fun ex m6 q c dd H6 r hm6 e6 => q c dd H6 r hm6 (e1.trans e6)) (Pstep acc d m q z)) fun q ce s H' acc m J fC ⟨mC, ns⟩ hm e2 len Pm mq => ?_
  exact ⟨mC, ns, fun h' sb => ⟨.ref q, H', J.turned (t' := s.toks) (it := ce.locals) (fun b o n q => (sb.2 b n).trans q) fC.1 fC.2.1 fC.2.2.2.1 fC.2.2.2.2.1 fC.2.2.2.2.2, rfl, Pend acc m len Pm q mq _ _ rfl hm (e1.trans e2)⟩⟩
end
end PV

/-! What a comprehension with a raising element may walk: a list, a tuple, range(n). -/
namespace PV
open PySem L2 PyProof.Rows
section
variable {X : Cx} {cl : Cl} {W : WX} {A : TE3} {R : TA3} {a tg : Expr} {p pos : Pos}
theorem src_list {H0 : Hp} {q it : Addr} {l : List D} (hh : X.A.handled = none) (ne : q ≠ it) : Src X cl tg it [it, q] l (fun m => RL m q l) H0 (YdV q) (StV it q l.length) where
  goes := goes_var hh ne _
  obj := fun i h ⟨⟨o, ho, _, hd⟩, _⟩ => ⟨o, ho, fun v z => by rw [hd] at z; cases z⟩
  item := by
    rintro Z pins σ H s m i v d hZ J hm - r hd ⟨its, hv, o, g, _, c, dat⟩
    obtain ⟨vs, sq, rp⟩ := hm.rl r
    obtain ⟨its2, va, ⟨o2, c2, g2, -, -, d2⟩, -⟩ := J.list (hZ ▸ sq)
    rw [g] at g2; cases g2
    rw [dat] at d2; cases d2
    obtain ⟨u, hu, ru⟩ := rp.get hd
    obtain ⟨v', hv', rv⟩ := va.get hu
    have : some v' = some v := by rw [← hv', ← hv]; simp
    cases this
    exact ⟨u, ru, rv⟩
  again := by
    rintro Z pins σ H s m i h hZ J hm - r ⟨⟨o, ho, c, d⟩, _⟩ stay
    obtain ⟨vs, sq, rp⟩ := hm.rl r
    obtain ⟨its2, va, ⟨o2, c2, g2, k2, -, d2⟩, -⟩ := J.list (hZ ▸ sq)
    exact ⟨⟨o, stay o ho, c, d⟩, its2.toArray, by rw [List.size_toArray, ← va.length, ← rp.length], o2, g2, k2, c2, d2⟩
/-- a tuple of n things is walked -/
def StT (I l : Addr) (n i : Nat) (h : Heap) : Prop := h.IsTupleIter I l i ∧ ∃ its : Array Value, its.size = n ∧ h.IsTuple l its
def YdT (l : Addr) (i : Nat) (v : Value) (h : Heap) : Prop := ∃ its : Array Value, its[i]? = some v ∧ h.IsTuple l its
theorem goes_varT {prog : Program} {w : World} {A : Around} {target : Expr} (hh : A.handled = none) {I l : Addr} (hne : l ≠ I) (n : Nat) : Goes prog w A target I [I, l] [I] n (YdT l) (StT I l n) := by
  have rule := fun its : Array Value => Goes.tuple (prog := prog) (w := w) (target := target) hh I l hne its
  constructor
  · exact (rule #[]).sub
  · rintro i h h' ⟨a, its, e, b⟩ keep
    obtain ⟨a', b'⟩ := (rule its).frame i h h' ⟨a, b⟩ keep
    exact ⟨a', its, e, b'⟩
  · rintro i s Q E hi ⟨a, its, rfl, b⟩ hQ
    refine (rule its).goes i s Q E hi ⟨a, b⟩ fun v h' tk hv st keep ht => ?_
    exact hQ v h' tk ⟨its, hv, st.2⟩ ⟨st.1, its, rfl, st.2⟩ keep ht
  · rintro s Q E ⟨a, its, rfl, b⟩ hQ
    exact (rule its).stops s Q E ⟨a, b⟩ hQ
  · rintro i s Q E ⟨a, its, rfl, b⟩ q
    exact (rule its).self i s Q E ⟨a, b⟩ q
theorem src_tup {H0 : Hp} {q it : Addr} {l : List D} {vs : List V} (hh : X.A.handled = none) (ne : q ≠ it) (sq : SqT X.K H0 q vs) (rp : Reps X.K H0 l vs) : Src X cl tg it [it, q] l (fun _ => True) H0 (YdT q) (StT it q l.length) where
  goes := goes_varT hh ne _
  obj := fun i h ⟨⟨o, ho, _, hd⟩, _⟩ => ⟨o, ho, fun v z => by rw [hd] at z; cases z⟩
  item := by
    rintro Z pins σ H s m i v d hZ J hm e0 - hd ⟨its, hv, o, g, _, n1, dat⟩
    obtain ⟨its2, va, ⟨o2, g2, -, n2, d2⟩, -⟩ := J.tuple (hZ ▸ e0.sqT sq)
    rw [g] at g2; cases g2
    rw [dat] at d2; cases d2
    obtain ⟨u, hu, ru⟩ := (rp.mono e0).get hd
    obtain ⟨v', hv', rv⟩ := va.get hu
    have : some v' = some v := by rw [← hv', ← hv]; simp
    cases this
    exact ⟨u, ru, rv⟩
  again := by
    rintro Z pins σ H s m i h hZ J hm e0 - ⟨⟨o, ho, c, d⟩, _⟩ stay
    obtain ⟨its2, va, tup, -⟩ := J.tuple (hZ ▸ e0.sqT sq)
    exact ⟨⟨o, stay o ho, c, d⟩, its2.toArray, by rw [List.size_toArray, ← va.length, ← rp.length], tup⟩
/-- a list, a tuple: walked by a comprehension whose element may raise -/
def iGo (A : TE3) : TI3 := fun s m k x => A s m (fun d m1 => (∃ q l, d = .ref q ∧ RL m1 q l ∧ k l (fun m => RL m q l) m1) ∨ ∃ l, d = .tup l ∧ k l (fun _ => True) m1) x
theorem x_go {s : S3} {m : Mp} {k : List D → (Mp → Prop) → Mp → Prop} {x : X3} (h : A s m (fun d m1 => (∃ q l, d = .ref q ∧ RL m1 q l ∧ k l (fun m => RL m q l) m1) ∨ ∃ l, d = .tup l ∧ k l (fun _ => True) m1) x) : iGo A s m k x := h
theorem sr_go (hc : X.calm = true) (ha : QE X cl W a A) : QSr X cl W tg a (iGo A) where
  mono := fun s m k k' x x' hk hx h => ha.mono _ _ _ _ _ _ (fun d m1 z => z.imp (fun ⟨q, l, e, r, w⟩ => ⟨q, l, e, r, hk _ _ _ w⟩) fun ⟨l, e, w⟩ => ⟨l, e, hk _ _ _ w⟩) hx h
  run := fun pins s0 σ H sl m G I hs0 hm0 h => by
    refine wpAny_mono (ha.run.run pins s0 σ H (fun v H1 => ∃ d m1, Rep X.K H1 d v ∧ Ab X.K cl H1 m1 ∧ Ext H H1 ∧ ((∃ q l, d = .ref q ∧ RL m1 q l ∧ G l (fun m => RL m q l) m1) ∨ ∃ l, d = .tup l ∧ G l (fun _ => True) m1)) I
      ⟨sl, m, hs0, hm0, ha.mono _ _ _ _ _ _ (fun d m1 z v H1 r hm1 e => ⟨d, m1, r, hm1, e, z⟩) (fun _ _ z => z) h⟩) ?_ fun _ _ z => z
    rintro u s1 ⟨v, H1, I1, rv, d, m1, r, hm1, e1, ⟨q, l, rfl, rl, g⟩ | ⟨l, rfl, g⟩⟩
    · obtain rfl : v = .ref q := r
      cases rv
      obtain ⟨vs, sq, rps⟩ := hm1.rl rl
      obtain ⟨its, vals, pl, lim⟩ := I1.list sq
      have there := Heap.lt_size pl.isList.choose_spec.1
      refine wpAny_pyIter_list pl.isList ?_
      have ne : q ≠ s1.heap.objs.size := Nat.ne_of_lt there
      have keep : ∀ b o, s1.heap.get? b = some o → (s1.heap.push { cls := .type "list_iterator", data := .fields #[.ref q, .int 0 0] }).get? b = some o := fun _ _ => Heap.get?_push_of_some _
      have low : ∀ b, b ≤ s1.heap.objs.size → b < (s1.heap.push { cls := .type "list_iterator", data := .fields #[.ref q, .int 0 0] }).objs.size := fun b z => by rw [size_push']; exact Nat.lt_succ_of_le z
      refine ⟨s1.heap.objs.size, _, l, _, _, _, H1, m1, rfl, I1.kept (t' := s1.toks) keep, src_list (I.ok.hd hc) ne, ⟨⟨_, Heap.get?_push_size _ rfl, rfl, rfl⟩, its.toArray, by rw [List.size_toArray, ← vals.length, ← rps.length], pl.isList.imp fun o z => ⟨keep _ _ z.1, z.2⟩⟩, fun b hb => ?_, I1.fpOk (Nat.le_refl _) (I1.hok.fresh (Nat.le_refl _)), rps.length ▸ lim, hm1, e1, g⟩
      rcases in_two hb with rfl | rfl
      · exact low _ (Nat.le_refl _)
      · exact low _ (Nat.le_of_lt there)
    · obtain ⟨q, vs, rfl, sq, rps⟩ := r
      cases rv
      obtain ⟨its, vals, tup, lim⟩ := I1.tuple sq
      obtain ⟨o, g0, k0⟩ := id tup
      have there := Heap.lt_size g0
      refine wpAny_pyIter_tuple (show s1.heap.IsTuple q its.toArray from tup) ?_
      have ne : q ≠ s1.heap.objs.size := Nat.ne_of_lt there
      have keep : ∀ b o, s1.heap.get? b = some o → (s1.heap.push { cls := .type "tuple_iterator", data := .fields #[.ref q, .int 0 0] }).get? b = some o := fun _ _ => Heap.get?_push_of_some _
      have low : ∀ b, b ≤ s1.heap.objs.size → b < (s1.heap.push { cls := .type "tuple_iterator", data := .fields #[.ref q, .int 0 0] }).objs.size := fun b z => by rw [size_push']; exact Nat.lt_succ_of_le z
      refine ⟨s1.heap.objs.size, _, l, _, _, _, H1, m1, rfl, I1.kept (t' := s1.toks) keep, src_tup (I.ok.hd hc) ne sq rps, ⟨⟨_, Heap.get?_push_size _ rfl, rfl, rfl⟩, its.toArray, by rw [List.size_toArray, ← vals.length, ← rps.length], ⟨o, keep _ _ g0, k0⟩⟩, fun b hb => ?_, I1.fpOk (Nat.le_refl _) (I1.hok.fresh (Nat.le_refl _)), rps.length ▸ lim, hm1, e1, g⟩
      rcases in_two hb with rfl | rfl
      · exact low _ (Nat.le_refl _)
      · exact low _ (Nat.le_of_lt there)
/-! ### range(n) -/
theorem src_rng {H0 : Hp} {it : Addr} {n : Nat} (hh : X.A.handled = none) : Src X cl tg it [it] (rngD 0 1 n) (fun _ => True) H0 (fun i v _ => ∃ t, v = .int (0 + (i : Nat) * 1) t) (fun i h => IsRangeIter h it (0 + (i : Nat) * 1) ((n : Int) - (i : Nat)) 1) where
  goes := by rw [rngD_length]; exact Goes.range hh it 0 1 n
  obj := fun i h z => ⟨_, z, fun v y => nomatch (show Data.fields _ = Data.cell v from y)⟩
  item := by
    rintro Z pins σ H s m i v d hZ J hm - - hd ⟨t, rfl⟩
    obtain ⟨-, rfl⟩ := rngD_get hd
    exact ⟨_, rfl, t, rfl⟩
  again := fun Z pins σ H s m i h hZ J hm _ _ z stay => stay _ z
/-- range(n), n no more than a million -/
def iGr (R : TA3) : TI3 := fun s m k x => R s m (fun ds m1 => ∃ n : Nat, ds = [.int (n : Int)] ∧ n ≤ 1000000 ∧ k (rngD 0 1 n) (fun _ => True) m1) x
theorem x_gr {s : S3} {m : Mp} {k : List D → (Mp → Prop) → Mp → Prop} {x : X3} (h : R s m (fun ds m1 => ∃ n : Nat, ds = [.int (n : Int)] ∧ n ≤ 1000000 ∧ k (rngD 0 1 n) (fun _ => True) m1) x) : iGr R s m k x := h
theorem sr_rng (hc : X.calm = true) (hg : Gl X "range") (hm : X.mg "range" = none) (ha : QA X cl W [a] R) (hs : starEach [a] X.env = [(false, eval a X.env)]) : QSr X cl W tg (.Call (.Name "range" p) [a] [] pos) (iGr R) where
  mono := fun s m k k' x x' hk hx h => ha.mono _ _ _ _ _ _ (fun ds m1 ⟨j, e, z, w⟩ => ⟨j, e, z, hk _ _ _ w⟩) hx h
  run := fun pins s0 σ H sl m G I hs0 hm0 h => by
    have args := ha.run.run pos pins s0 σ H (fun vs H1 => ∃ (n : Nat) (m1 : Mp), vs = [.int (n : Int)] ∧ n ≤ 1000000 ∧ Ab X.K cl H1 m1 ∧ Ext H H1 ∧ G (rngD 0 1 n) (fun _ => True) m1) I
      ⟨sl, m, hs0, hm0, ha.mono _ _ _ _ _ _ (fun ds m1 ⟨j, e, b, z⟩ vs H1 r hm1 e1 => by
        subst e
        obtain ⟨v, rfl, q⟩ := reps1 r
        cases q
        exact ⟨j, m1, rfl, b, hm1, e1, z⟩) (fun _ _ z => z) h⟩
    refine Call_ (ld_blt I hg hm PyProof.Rows.boot_range (PyProof.Rows.callWith_type1 (wpAny_mono args ?_ fun _ _ z => z) hs rfl))
    rintro us s1 ⟨_, H1, I1, r, n, m1, rfl, lim, hm1, e1, g⟩
    match us, r with
    | [_], .cons ⟨t, rfl⟩ .nil =>
      have len : Builtin.Range.rangeSize 0 (n : Int) 1 = (n : Int) := by rw [rangeSize_one]; split <;> omega
      refine call_range_1 (wpAny_pyIter_range (IsRange.new _ _ _ _ _ _ _) (small_one (by decide) (by decide) (by omega) (by omega)) ?_)
      rw [len]
      have old : s1.heap.objs.size ≤ (s1.heap.push { cls := .type "range", data := .fields #[.int 0 s1.toks, .int (n : Int) t, .int 1 (s1.toks + 1)] }).objs.size := by rw [size_push']; exact Nat.le_succ _
      refine ⟨_, _, rngD 0 1 n, _, _, _, H1, m1, rfl, I1.kept fun b o e => Heap.get?_push_of_some _ (Heap.get?_push_of_some _ e), src_rng (I.ok.hd hc), ?_, fun b hb => ?_, I1.fpOk old (I1.hok.fresh old), ?_, hm1, e1, g⟩
      · show Heap.get? _ _ = _
        exact (Heap.get?_push_size _ rfl).trans (by simp)
      · rw [List.mem_singleton.mp hb]
        show _ < (Heap.push _ _).objs.size
        rw [size_push' (h := Heap.push _ _)]; exact Nat.lt_succ_self _
      · rw [rngD_length]; exact Nat.le_trans lim (by decide)
end
end PV

/-! y = [a call that may raise for x in ..] -/
namespace PV
open PySem L2 PyProof.Rows
section
variable {X : Cx} {cl : Cl} {W : WX} {B : TE3} {i : Nat} {x : Str} {a e : Expr} {scope : Scope} {p1 pos : Pos}
theorem qs_lcG {T : TI3} {y : Str} {py spos : Pos} {n : Nat} (tk : Takes X W) (hst : X.stack = X.env :: X.outer) (hef : X.env.frame = some X.env.locals) (hN : X.N.Nodup) (hy : PG X (.Name y py) (gName n))
    (hsw : swapsWith (.ListComp e [⟨.Name x p1, a, [], 0⟩] scope pos) (some (.Name y py)) spos.line X.env = pure true) (ha : QSr X cl W (.Name x p1) a T) (ok : BlkOk X.N X.env.scope scope [(x, i)]) (hcell : ∀ z ∈ scope.names, z.2 ≠ .cell)
    (hg : ∀ (s : Shared) (H : Hp) (C : Addr) (cz : List (Str × Addr)) (fp : List Addr) (xe : Value → Shared → Prop), PG (blkX X s H scope (compEnvC scope cz C X.env) fp xe) (.Name x p1) (gName i))
    (hb : ∀ (s : Shared) (H : Hp) (C : Addr) (cz : List (Str × Addr)) (fp : List Addr) (xe : Value → Shared → Prop) (σ : L2.St), Takes (blkX X s H scope (compEnvC scope cz C X.env) fp xe) (wAt W σ) → QE (blkX X s H scope (compEnvC scope cz C X.env) fp xe) cl (wAt W σ) e B)
    (hfs : ∀ z, foldedSetIterable a X.env z = pure z) : QS X cl W (.Assign [.Name y py] (.ListComp e [⟨.Name x p1, a, [], 0⟩] scope pos) spos) (sAsg (eLcG T i B) (gNm n)) := by
  have mB : MonoE B := (hb X.s_0 X.H_0 0 [] [] (fun _ _ => True) [] fun _ _ _ => True.intro).mono
  refine ⟨fun s m D D' l q => mono_lcG ha.mono mB _ _ _ _ _ _ (fun _ _ z => l.nx _ _ z) (fun _ _ z => l.ex _ _ _ z) q, ⟨fun pins s0 σ H D I0 ⟨sl, m0, hs0, hm0, h⟩ => ?_⟩⟩
  have h : eLcG T i B sl m0 (fun d m1 => (cN X.K cl W H D).nx (sl.set n (some d)) m1) (cX X.K cl W H σ) := mono_lcG ha.mono mB _ _ _ _ _ _ (fun _ _ z => z) (fun _ _ z => ex_cX hs0 z) h
  refine Assign_ListComp_goes hsw (blk_clos I0 ok) hcell ok.kind (fun y m q => (ok.uniq y m).trans (congrArg some q)) ?_ hfs
  refine wpAny_mono (ha.run pins s0 σ H sl m0 _ I0 hs0 hm0 h) (fun v s1 h1 => wpAny_mono h1 (fun itv s2 h2 => ?_) fun _ _ z => z) fun _ _ z => z
  obtain ⟨it, fp, l, R, Y, St, H1, m1, rfl, I2, src, st0, low, fit, lim, hm1, e1, P, P0, PR, Pstep, Pend⟩ := h2
  refine lc_turns tk hst hef hN ok hcell hg hb I2 src st0 low fit lim (hs0.mono e1) hm1 P0 PR (fun acc d m q z => mB _ _ _ _ _ _ (fun _ _ h => h) (fun ex m6 q c dd H6 r hm6 e6 => q c dd H6 r hm6 (e1.trans e6)) (Pstep acc d m q z)) fun q ce s H' acc m J fC ⟨mC, ns⟩ hm e2 len Pm mq => ?_
  obtain ⟨oC, _, _, gC, dC, _⟩ := id ns
  have pinned := J.pinned (fp := [ce.locals]) (fun b hb => by rw [List.mem_singleton.mp hb]; exact fC) fun b hb => ⟨oC, by rw [List.mem_singleton.mp hb]; exact gC, fun v z => by rw [dC] at z; cases z⟩
  show wpAny _ X.A (assign (.Name y py) X.env (.ref q)) _ _ s
  refine wpAny_mono (hy.run _ s σ H' (.ref q) (.ref q) (fun σ2 H2 => σ2 = σ.set n (some (.ref q)) ∧ H2 = H') pinned rfl ⟨rfl, rfl⟩) (fun _ s5 ⟨σ5, H5, J5, e5, e6⟩ => ?_) fun _ _ z => z
  subst e5 e6
  refine ⟨mC, ns.at fun o z => (J5.pin (ce.locals, o) (List.mem_append_right _ (List.mem_append_right _ (mem_pinsAt (by simp) z)))).1, fun h' sb => ⟨_, _, J5.unpinned.turned (t' := s5.toks) (it := ce.locals) (fun b o n q => (sb.2 b n).trans q) fC.1 fC.2.1 fC.2.2.2.1 fC.2.2.2.2.1 fC.2.2.2.2.2, ?_⟩⟩
  exact Pend acc m len Pm q mq _ _ ((hs0.mono (e1.trans e2)).set (show Rep X.K _ (.ref q) (.ref q) from rfl) n) hm (e1.trans e2)
end
end PV

/-! where a number stands in a list of numbers -/
namespace PV
open PySem L2 PyProof.Rows
section
variable {X : Cx} {cl : Cl}
def fIndex (o : D) (ds : List D) (m : Mp) (k : K3) : Prop := ∃ (p : Addr) (ns : List Int) (i : Int) (j : Nat), o = .ref p ∧ m p = some (.lst (ns.map D.int)) ∧ ds = [.int i] ∧ ns[j]? = some i ∧ (∀ n, n < j → ns[n]? ≠ some i) ∧ k (.int (j : Nat)) m
theorem mono_index : MonoM fIndex := fun o ds m k k' hk ⟨p, ns, i, j, a, b, c, d, e, q⟩ => ⟨p, ns, i, j, a, b, c, d, e, hk _ _ q⟩
theorem ints_lay : ∀ ns : List Int, PyData.canLayAll0 (ns.map PyData.int) = true ∧ PyData.depthAll (ns.map PyData.int) ≤ 1
  | [] => ⟨rfl, by decide⟩
  | n :: ns => by
    obtain ⟨a, b⟩ := ints_lay ns
    refine ⟨?_, ?_⟩
    · show (PyData.canLay0 (.int n) && PyData.canLayAll0 (ns.map PyData.int)) = true
      rw [a]; rfl
    · show max (PyData.depth (.int n)) (PyData.depthAll (ns.map PyData.int)) ≤ 1
      have : PyData.depth (.int n) = 0 := rfl
      omega
theorem ints_shaped (ns : List Int) : SeqAt.shaped (.list (ns.map PyData.int)) = true := by
  obtain ⟨a, b⟩ := ints_lay ns
  unfold SeqAt.shaped
  rw [Bool.and_eq_true, decide_eq_true_eq]
  exact ⟨a, by show PyData.depthAll (ns.map PyData.int) + 1 ≤ 64; omega⟩
theorem up_index : UpM X cl fIndex (rIndexD X.K) := fun H m o v ds vs Q r1 r2 hm ⟨p, ns, i, j, e1, e2, e3, e4, e5, q⟩ => by
  subst e1 e3
  have r' : v = .ref p := r1
  subst r'
  obtain ⟨u, rfl, ru⟩ := reps1 r2
  have hd := (DP.lst (.inl e2) toPs_ints).dp hm r1
  have hi := (DP.int (m := m) i).dp hm ru
  refine ⟨p, u, .int i, ns.map .int, j, .int i, rfl, rfl, hd, hi, ints_shaped ns, rfl, by rw [List.getElem?_map, e4]; rfl, by rw [eqv_int]; exact decide_eq_true rfl, fun n z hn hz => ?_, q _ _ rfl hm (Ext.refl H)⟩
  rw [List.getElem?_map] at hz
  cases e : ns[n]? with
  | none => rw [e] at hz; cases hz
  | some y =>
    rw [e] at hz
    cases hz
    rw [eqv_int]
    exact decide_eq_false fun z => e5 n hn (by rw [e, z])
end
theorem xf_index {p : Addr} {ns : List Int} {i : Int} {j : Nat} {m : Mp} {k : K3} (h1 : m p = some (.lst (ns.map D.int))) (h2 : ns[j]? = some i) (h3 : ∀ n, n < j → ns[n]? ≠ some i) (h : k (.int (j : Nat)) m) : fIndex (.ref p) [.int i] m k := ⟨p, ns, i, j, rfl, h1, rfl, h2, h3, h⟩
end PV

/-! a list's every k-th element -/
namespace PV
open PySem L2 PyProof.Rows
def selG {α : Type} (js : List Nat) (l : List α) : List α := js.filterMap fun i => l[i]?
def stpI (lo : Option Int) (k n : Nat) : List Nat := sliceRange (sliceBounds lo none (some (k : Int)) n).1 (sliceBounds lo none (some (k : Int)) n).2.1 (sliceBounds lo none (some (k : Int)) n).2.2
def stpG {α : Type} (l : List α) (lo : Option Int) (k : Nat) : List α := selG (stpI lo k l.length) l
theorem selG_c {α : Type} {i : Nat} {js : List Nat} {l : List α} : selG (i :: js) l = (match l[i]? with | some x => [x] | none => []) ++ selG js l := by
  unfold selG
  rw [List.filterMap_cons]
  cases l[i]? <;> rfl
theorem sel_vals {xs : List V} {us : List Value} (r : Vals xs us) : ∀ js : List Nat, Vals (selG js xs) (selG js us)
  | [] => .nil
  | i :: js => by
    rw [selG_c, selG_c]
    cases e : xs[i]? with
    | none => rw [r.none_of e]; exact sel_vals r js
    | some x =>
      obtain ⟨u, eu, ru⟩ := r.get e
      rw [eu]
      exact Vals.append (.cons ru .nil) (sel_vals r js)
theorem sel_reps {K : PySem.W.Frag} {H : Hp} {ds : List D} {vs : List V} (r : Reps K H ds vs) : ∀ js : List Nat, Reps K H (selG js ds) (selG js vs)
  | [] => rfl
  | i :: js => by
    rw [selG_c, selG_c]
    cases e : ds[i]? with
    | none =>
      have hl := List.getElem?_eq_none_iff.mp e
      have hn : vs[i]? = none := List.getElem?_eq_none_iff.mpr (by rw [← r.length]; exact hl)
      rw [hn]; exact sel_reps r js
    | some d =>
      obtain ⟨v, ev, rv⟩ := r.get e
      rw [ev]
      exact ⟨v, _, rfl, rv, sel_reps r js⟩
theorem stp_vals {xs : List V} {us : List Value} (r : Vals xs us) (lo : Option Int) (k : Nat) : Vals (stpG xs lo k) (stpG us lo k) := by
  unfold stpG
  rw [r.length]; exact sel_vals r _
theorem stp_reps {K : PySem.W.Frag} {H : Hp} {ds : List D} {vs : List V} (r : Reps K H ds vs) (lo : Option Int) (k : Nat) : Reps K H (stpG ds lo k) (stpG vs lo k) := by
  unfold stpG
  rw [r.length]; exact sel_reps r _
theorem stp_pick {its : List Value} {lo : Option Int} {k : Nat} : slicePick its.toArray lo none (some (k : Int)) = (stpG its lo k).toArray := by
  unfold slicePick stpG stpI selG
  rw [List.size_toArray]
  congr 2
  funext i
  exact List.getElem?_toArray ..
theorem stp_len {its : List Value} {lo : Option Int} {k : Nat} : (stpG its lo k).length ≤ its.length := by
  have h := slicePick_size_le its.toArray lo none (some (k : Int))
  rw [stp_pick, List.size_toArray, List.size_toArray] at h
  exact h
section
variable {X : Cx} {cl : Cl} {W : WX} {a : Expr} {A : TE3} {pos : Pos}
/-- xs[lo::k], by values -/
def tStp (K : PySem.W.Frag) (te : TE) (tl : TO) (k : Nat) : TE := fun σ H Q => te σ H fun x H1 => tl σ H1 fun lo H2 =>
  ∃ q xs, x = .ref q ∧ SqL K H2 q xs ∧ ∀ p, H2 p = none → Q (.ref p) (upd H2 p (.lst (stpG xs lo k)))
theorem pe_stp {lo c : Option Expr} {g : Expr} {te : TE} {tl : TO} {k : Nat} {p2 : Pos} (ha : PE X a te) (hl : PO X lo tl) (hc : PE X g (tC (.int (k : Int)))) (hk : 0 < k)
    (hs : ∀ b sl, subscripted (.Slice lo none (some g) p2) false (.ref b) (.ref sl) = operate [.ref b, .ref sl] (getItem (.ref b) (.ref sl)) := by intros; with_unfolding_all rfl) :
    PE X (.Subscript a (.Slice lo none (some g) p2) pos) (tStp X.K te tl k) := by
  constructor
  intro pins s σ H Q I hw
  refine Subscript_ (thn (ha.run pins s σ H _ I hw) ?_)
  rintro v s1 ⟨x, H1, J, rv, hw1⟩
  refine wpAny_Slice (thn (hl.run pins s1 σ H1 _ J hw1) ?_)
  rintro vl s2 ⟨o, H2, J2, pl, q, xs, rfl, hx, hQ⟩
  cases rv
  refine thn (po_none.run pins s2 σ H2 (fun u H3 => u = none ∧ H3 = H2) J2 ⟨rfl, rfl⟩) ?_
  rintro vu s3 ⟨_, _, J3, pu, rfl, rfl⟩
  refine thn ((po_some hc).run pins s3 σ _ (fun u H4 => u = some (k : Int) ∧ H4 = _) J3 ⟨_, rfl, rfl, rfl⟩) ?_
  rintro vs s4 ⟨_, _, J4, pw, rfl, rfl⟩
  have J5 := J4.kept (t' := s4.toks) (h' := s4.heap.push { cls := .type "slice", data := .fields #[vl, vu, vs] }) fun b ob z => Heap.get?_push_of_some _ z
  obtain ⟨its, r, ht, hz⟩ := J5.list hx
  have hn := r.length
  have hsz : its.length ≤ sizeLine := by omega
  refine tail_any (ops := [.ref q, .ref s4.heap.objs.size]) ht.isList.typeIs PySem.slot_list_getitem.lookup (wpAny_getItem_list_slice ht.isList (Heap.IsSliceOf.new _ vl vu vs) pl pu pw (fun z => by injection z; omega) ?_ (by rw [List.size_toArray]; exact hsz)) (hs _ _)
  rw [stp_pick]
  refine ⟨.ref _, _, J5.laid (t' := s4.toks) (o := .lst (stpG xs o k)) (fun b ob z => Heap.get?_push_of_some _ z) (Nat.le_refl _) ?_, rfl, hQ _ (J5.hok.fresh (Nat.le_refl _))⟩
  have rs := stp_vals r o k
  exact ⟨by rw [rs.length]; exact Nat.le_trans stp_len hsz, _, 0, rs, Heap.get?_push_size _ rfl⟩
def eStp (A : TE3) (L : TO3) (k : Nat) : TE3 := fun s m κ x => A s m (fun d m1 => L s m1 (fun lo m2 => ∃ q l, d = .ref q ∧ RL m2 q l ∧ ∀ p, m2 p = none → κ (.ref p) (mset m2 p (.lst (stpG l lo k)))) x) x
theorem q_stp {lo : Option Expr} {g : Expr} {L : TO3} {k : Nat} {p2 : Pos} (ha : QE X cl W a A) (hl : QO X cl W lo L) (hc : PE X g (tC (.int (k : Int)))) (hk : 0 < k)
    (hs : ∀ b sl, subscripted (.Slice lo none (some g) p2) false (.ref b) (.ref sl) = operate [.ref b, .ref sl] (getItem (.ref b) (.ref sl)) := by intros; with_unfolding_all rfl) :
    QE X cl W (.Subscript a (.Slice lo none (some g) p2) pos) (eStp A L k) where
  mono := fun s m κ κ' x x' hκ hx h => ha.mono _ _ _ _ _ _ (fun d m1 z => hl.mono _ _ _ _ _ _ (fun o m2 ⟨q, l, e, r, y⟩ => ⟨q, l, e, r, fun p hp => hκ _ _ (y p hp)⟩) hx z) hx h
  run := PE.imp (pe_stp (c := none) ha.run hl.run hc hk hs) fun σ H Q ⟨s, m, hs, hm, h⟩ => ⟨s, m, hs, hm, ha.mono _ _ _ _ _ _ (fun d m1 z v H1 rv hm1 e1 =>
    ⟨s, m1, hs.mono e1, hm1, hl.mono _ _ _ _ _ _ (fun o m2 ⟨q, l, e, r, y⟩ H2 hm2 e2 => by
      rw [e] at rv
      obtain ⟨xs, hx, rx⟩ := hm2.rl r
      exact ⟨q, xs, rv, hx, fun p hp => y p (hm2.free hp) _ _ rfl (new_lst hm2 hp (stp_reps rx o k)) ((e1.trans e2).trans (Ext.new hp))⟩) (fun _ _ w => cX_ext e1 w) z⟩) (fun _ _ z => z) h⟩
end
theorem x_stp {A : TE3} {L : TO3} {k : Nat} {s : S3} {m : Mp} {κ : K3} {x : X3} (h : A s m (fun d m1 => L s m1 (fun lo m2 => ∃ q l, d = .ref q ∧ RL m2 q l ∧ ∀ p, m2 p = none → κ (.ref p) (mset m2 p (.lst (stpG l lo k)))) x) x) : eStp A L k s m κ x := h
/-! ### what stands there -/
theorem sel_mem {α : Type} {js : List Nat} {l : List α} {x : α} (h : x ∈ selG js l) : x ∈ l := by
  obtain ⟨i, _, e⟩ := List.mem_filterMap.mp h
  exact List.mem_of_getElem? e
theorem stp_mem {α : Type} {l : List α} {lo : Option Int} {k : Nat} {x : α} (h : x ∈ stpG l lo k) : x ∈ l := sel_mem h
theorem stp_map {α β : Type} {f : α → β} {l : List α} {lo : Option Int} {k : Nat} : stpG (l.map f) lo k = (stpG l lo k).map f := by
  unfold stpG selG
  rw [List.length_map, List.map_filterMap]
  congr 1
  funext i
  rw [List.getElem?_map]
def evL {α : Type} : List α → List α
  | [] => []
  | [x] => [x]
  | x :: _ :: l => x :: evL l
theorem evL_c {α : Type} {y : α} : ∀ l : List α, evL (y :: l) = y :: evL (l.drop 1)
  | [] => rfl
  | _ :: _ => rfl
theorem ev_perm {α : Type} : ∀ l : List α, (evL l ++ evL (l.drop 1)).Perm l
  | [] => List.Perm.refl _
  | [x] => List.Perm.refl _
  | x :: y :: l => by
    show (x :: evL l ++ evL (y :: l)).Perm (x :: y :: l)
    rw [evL_c]
    refine List.Perm.cons _ ?_
    exact List.perm_middle.trans (List.Perm.cons _ (ev_perm l))
theorem ev_sel {α : Type} : ∀ l : List α, selG ((List.range ((l.length + 1) / 2)).map fun j => 2 * j) l = evL l
  | [] => by simp [selG, evL]
  | [x] => by simp [selG, evL, List.range_succ]
  | x :: y :: l => by
    have e : ((x :: y :: l).length + 1) / 2 = (l.length + 1) / 2 + 1 := by simp only [List.length_cons]; omega
    rw [e, List.range_succ_eq_map, List.map_cons, selG_c]
    show x :: selG (((List.range ((l.length + 1) / 2)).map Nat.succ).map fun j => 2 * j) (x :: y :: l) = x :: evL l
    rw [← ev_sel l]
    unfold selG
    rw [List.map_map, List.filterMap_map, List.filterMap_map]
    rfl
theorem stp_ev {α : Type} {l : List α} : stpG l none 2 = evL l := by
  rw [← ev_sel]
  unfold stpG stpI
  congr 1
  show sliceRange 0 (l.length : Int) 2 = _
  unfold sliceRange
  have e : (if (2 : Int) > 0 then if (0 : Int) < (l.length : Int) then ((l.length : Int) - 0 + 2 - 1) / 2 else 0 else if (0 : Int) > (l.length : Int) then (0 - (l.length : Int) - 2 - 1) / -2 else 0).toNat = (l.length + 1) / 2 := by
    rw [if_pos (by decide)]
    split <;> omega
  dsimp only
  rw [e]
  refine List.map_congr_left fun j _ => ?_
  omega
theorem stp_od {α : Type} {l : List α} : stpG l (some 1) 2 = evL (l.drop 1) := by
  cases l with
  | nil => rfl
  | cons x l =>
    show _ = evL l
    rw [← ev_sel]
    have e : stpI (some 1) 2 (x :: l).length = (List.range ((l.length + 1) / 2)).map fun j => 2 * j + 1 := by
      have hb : sliceBounds (some 1) none (some ((2 : Nat) : Int)) (x :: l).length = (1, ((l.length + 1 : Nat) : Int), 2) := by
        unfold sliceBounds
        simp only [Option.getD_some, List.length_cons]
        refine Prod.ext ?_ rfl
        dsimp only
        simp
        omega
      unfold stpI
      rw [hb]
      show sliceRange 1 ((l.length + 1 : Nat) : Int) 2 = _
      unfold sliceRange
      have e : (if (2 : Int) > 0 then if (1 : Int) < ((l.length + 1 : Nat) : Int) then (((l.length + 1 : Nat) : Int) - 1 + 2 - 1) / 2 else 0 else if (1 : Int) > ((l.length + 1 : Nat) : Int) then (1 - ((l.length + 1 : Nat) : Int) - 2 - 1) / -2 else 0).toNat = (l.length + 1) / 2 := by
        rw [if_pos (by decide)]
        split <;> omega
      dsimp only
      rw [e]
      refine List.map_congr_left fun j _ => ?_
      omega
    unfold stpG
    rw [e]
    unfold selG
    rw [List.filterMap_map, List.filterMap_map]
    rfl
end PV

/-! Dicts whose keys are things of any kind, as data. -/
namespace PV
open PySem L2 PyProof.Rows
mutual
theorem nk_depth : ∀ {n : Nat} {d : D}, Fine n d → (nk d).depth ≤ n
  | _, .non, _ => Nat.zero_le _
  | _, .bl _, _ => Nat.zero_le _
  | _, .int _, _ => Nat.zero_le _
  | _, .str _, _ => Nat.zero_le _
  | _, .ref _, _ => Nat.zero_le _
  | _, .ty _, _ => Nat.zero_le _
  | n, .tup l, h => by
    obtain ⟨k, rfl, _, h3⟩ := h.parts
    show NestedKey.depthAll (nks l) + 1 ≤ k + 1
    exact Nat.succ_le_succ (nks_depth h3)
theorem nks_depth : ∀ {n : Nat} {l : List D}, (∀ d ∈ l, Fine n d) → NestedKey.depthAll (nks l) ≤ n
  | _, [], _ => Nat.zero_le _
  | n, d :: l, h => by
    show max (nk d).depth (NestedKey.depthAll (nks l)) ≤ n
    exact Nat.max_le.mpr ⟨nk_depth (h d (List.mem_cons_self ..)), nks_depth fun e he => h e (List.mem_cons_of_mem _ he)⟩
end
mutual
theorem nk_inj : ∀ {n m : Nat} {a b : D}, Fine n a → Fine m b → nk a = nk b → a = b
  | n, m, .non, b, _, hb, e => by
    rcases hb.cases with rfl | ⟨i, rfl, _⟩ | ⟨z, rfl, _⟩ | ⟨l, k, rfl, _⟩
    · rfl
    all_goals (simp [nk] at e)
  | n, m, .int i, b, _, hb, e => by
    rcases hb.cases with rfl | ⟨j, rfl, _⟩ | ⟨z, rfl, _⟩ | ⟨l, k, rfl, _⟩
    · simp [nk] at e
    · simp [nk] at e; rw [e]
    all_goals (simp [nk] at e)
  | n, m, .str z, b, _, hb, e => by
    rcases hb.cases with rfl | ⟨j, rfl, _⟩ | ⟨y, rfl, _⟩ | ⟨l, k, rfl, _⟩
    · simp [nk] at e
    · simp [nk] at e
    · simp [nk] at e; rw [e]
    · simp [nk] at e
  | n, m, .tup l, b, ha, hb, e => by
    rcases hb.cases with rfl | ⟨j, rfl, _⟩ | ⟨y, rfl, _⟩ | ⟨r, k, rfl, _, _, h4⟩
    · simp [nk] at e
    · simp [nk] at e
    · simp [nk] at e
    · obtain ⟨k', _, _, h3⟩ := ha.parts
      simp only [nk, NestedKey.tup.injEq] at e
      rw [nks_inj h3 h4 e]
  | n, _, .bl _, _, ha, _, _ => by cases n <;> exact ha.elim
  | n, _, .ref _, _, ha, _, _ => by cases n <;> exact ha.elim
  | n, _, .ty _, _, ha, _, _ => by cases n <;> exact ha.elim
theorem nks_inj : ∀ {n m : Nat} {l r : List D}, (∀ d ∈ l, Fine n d) → (∀ d ∈ r, Fine m d) → nks l = nks r → l = r
  | _, _, [], [], _, _, _ => rfl
  | _, _, [], _ :: _, _, _, e => by simp [nks] at e
  | _, _, _ :: _, [], _, _, e => by simp [nks] at e
  | _, _, d :: l, b :: r, h, h', e => by
    simp only [nks, List.cons.injEq] at e
    rw [nk_inj (h d (List.mem_cons_self ..)) (h' b (List.mem_cons_self ..)) e.1, nks_inj (fun x hx => h x (List.mem_cons_of_mem _ hx)) (fun x hx => h' x (List.mem_cons_of_mem _ hx)) e.2]
end
section
variable {X : Cx} {pins : List (Addr × Obj)} {σ : L2.St} {H : Hp} {s : Shared}
mutual
theorem ky_rep (I : Inv X pins σ H s) : ∀ {n : Nat} {d : D} {v : V} {u : Value}, Fine n d → Rep X.K H d v → RelV v u → NestedIs s.heap (nk d) u
  | n, .non, v, u, _, r, ru => by
    have r' : v = .non := r
    subst r'
    obtain rfl : u = .none := ru
    exact .none
  | n, .int i, v, u, _, r, ru => by
    have r' : v = .int i := r
    subst r'
    obtain ⟨t, rfl⟩ := (show ∃ t, u = Value.int i t from ru)
    exact .int i t
  | n, .str z, v, u, _, r, ru => by
    have r' : v = .str z := r
    subst r'
    obtain ⟨t, rfl⟩ := (show ∃ t, u = Value.str z t from ru)
    exact .text z t
  | n, .tup l, v, u, h, r, ru => by
    obtain ⟨a, vs, rfl, r2, r3⟩ := r
    obtain rfl : u = .ref a := ru
    obtain ⟨k, rfl, _, h3⟩ := h.parts
    obtain ⟨its, rv, ⟨o, ho, hc, m, hd⟩, _⟩ := I.tuple r2
    exact .tup ho hc hd (by simpa using kys_rep I h3 r3 rv)
  | n, .bl _, _, _, h, _, _ => by cases n <;> exact h.elim
  | n, .ref _, _, _, h, _, _ => by cases n <;> exact h.elim
  | n, .ty _, _, _, h, _, _ => by cases n <;> exact h.elim
theorem kys_rep (I : Inv X pins σ H s) : ∀ {n : Nat} {l : List D} {vs : List V} {us : List Value}, (∀ d ∈ l, Fine n d) → Reps X.K H l vs → Vals vs us → NestedAll s.heap (nks l) us
  | _, [], vs, us, _, r, rv => by
    have r' : vs = [] := r
    subst r'
    cases rv
    exact .nil
  | _, d :: l, vs, us, h, r, rv => by
    obtain ⟨v, w, rfl, r1, r2⟩ := r
    cases rv with
    | cons q qs => exact .cons (ky_rep I (h d (List.mem_cons_self ..)) r1 q) (kys_rep I (fun e he => h e (List.mem_cons_of_mem _ he)) r2 qs)
end
end
/-- the keys of a dict are things, each once -/
structure KvX (kvs : List (D × D)) : Prop where
  fine : ∀ p ∈ kvs, Fine 8 p.1
  once : (kvs.map (·.1)).Nodup
open Classical in
noncomputable def getT (kvs : List (D × D)) (k : D) : Option D := (kvs.find? fun p => decide (p.1 = k)).map (·.2)
open Classical in
noncomputable def putT (kvs : List (D × D)) (k v : D) : List (D × D) := if k ∈ kvs.map (·.1) then kvs.map fun p => if p.1 = k then (p.1, v) else p else kvs ++ [(k, v)]
theorem KvX.nil : KvX [] := ⟨fun p h => (by cases h), List.nodup_nil⟩
theorem putT_keys {kvs : List (D × D)} {k v : D} : (putT kvs k v).map (·.1) = kvs.map (·.1) ∨ (k ∉ kvs.map (·.1) ∧ (putT kvs k v).map (·.1) = kvs.map (·.1) ++ [k]) := by
  classical
  unfold putT
  split
  · refine .inl ?_
    rw [List.map_map]
    refine List.map_congr_left fun p _ => ?_
    show (if p.1 = k then (p.1, v) else p).1 = p.1
    split <;> rfl
  · rename_i h
    exact .inr ⟨h, by rw [List.map_append]; rfl⟩
theorem KvX.put {kvs : List (D × D)} {k v : D} (h : KvX kvs) (hk : Fine 8 k) : KvX (putT kvs k v) := by
  have hf : ∀ d ∈ kvs.map (·.1), Fine 8 d := fun d hd => by
    obtain ⟨p, hp, rfl⟩ := List.mem_map.mp hd
    exact h.fine p hp
  have key : ∀ d ∈ (putT kvs k v).map (·.1), Fine 8 d := fun d hd => by
    rcases putT_keys (kvs := kvs) (k := k) (v := v) with e | ⟨_, e⟩
    · rw [e] at hd; exact hf d hd
    · rw [e] at hd
      rcases List.mem_append.mp hd with hd | hd
      · exact hf d hd
      · rw [List.mem_singleton.mp hd]; exact hk
  refine ⟨fun p hp => key p.1 (List.mem_map_of_mem hp), ?_⟩
  rcases putT_keys (kvs := kvs) (k := k) (v := v) with e | ⟨hn, e⟩
  · rw [e]; exact h.once
  · rw [e, List.nodup_append]
    exact ⟨h.once, by simp, fun a ha b hb => by rw [List.mem_singleton.mp hb]; exact fun z => hn (z ▸ ha)⟩
theorem putT_len {kvs : List (D × D)} {k v : D} : (putT kvs k v).length ≤ kvs.length + 1 := by
  unfold putT
  split
  · rw [List.length_map]; omega
  · rw [List.length_append]; exact Nat.le_refl _
open Classical in
theorem getT_pos {p : D × D} {kvs : List (D × D)} {k : D} (e : p.1 = k) : getT (p :: kvs) k = some p.2 := by simp [getT, List.find?_cons, e]
open Classical in
theorem getT_neg {p : D × D} {kvs : List (D × D)} {k : D} (e : p.1 ≠ k) : getT (p :: kvs) k = getT kvs k := by simp [getT, List.find?_cons, e]
theorem getT_no {kvs : List (D × D)} {k : D} (h : k ∉ kvs.map (·.1)) : getT kvs k = none := by
  classical
  induction kvs with
  | nil => rfl
  | cons p kvs ih =>
    rw [List.map_cons, List.mem_cons, not_or] at h
    rw [getT_neg (fun e => h.1 e.symm)]
    exact ih h.2
theorem getT_some {kvs : List (D × D)} {k : D} (h : k ∈ kvs.map (·.1)) : ∃ v, getT kvs k = some v ∧ (k, v) ∈ kvs := by
  induction kvs with
  | nil => cases h
  | cons p kvs ih =>
    by_cases e : p.1 = k
    · exact ⟨p.2, getT_pos e, by rw [← e]; exact List.mem_cons_self ..⟩
    · rw [List.map_cons, List.mem_cons] at h
      obtain ⟨v, a, b⟩ := ih (h.resolve_left fun z => e z.symm)
      exact ⟨v, by rw [getT_neg e]; exact a, List.mem_cons_of_mem _ b⟩
open Classical in
theorem getT_rep {k v j : D} : ∀ kvs : List (D × D), getT (kvs.map fun p => if p.1 = k then (p.1, v) else p) j = if j = k then (if k ∈ kvs.map (·.1) then some v else none) else getT kvs j
  | [] => by
    show none = _
    split
    · rw [if_neg (fun h => nomatch h)]
    · rfl
  | p :: kvs => by
    have ih := getT_rep (k := k) (v := v) (j := j) kvs
    rw [List.map_cons]
    by_cases e : p.1 = k
    · rw [if_pos e]
      by_cases ej : j = k
      · rw [if_pos ej, getT_pos (p := (p.1, v)) (e.trans ej.symm), if_pos (by rw [List.map_cons, e]; exact List.mem_cons_self ..)]
      · have n : p.1 ≠ j := fun z => ej (z.symm.trans e)
        rw [if_neg ej, getT_neg (p := (p.1, v)) n, getT_neg n, ih, if_neg ej]
    · rw [if_neg e]
      by_cases epj : p.1 = j
      · rw [getT_pos epj, getT_pos epj, if_neg (fun z => e (epj.trans z))]
      · rw [getT_neg epj, getT_neg epj, ih]
        by_cases ej : j = k
        · rw [if_pos ej, if_pos ej]
          by_cases hm : k ∈ kvs.map (·.1)
          · rw [if_pos hm, if_pos (by rw [List.map_cons]; exact List.mem_cons_of_mem _ hm)]
          · rw [if_neg hm, if_neg (fun h => by
              rw [List.map_cons, List.mem_cons] at h
              exact h.elim (fun z => e z.symm) hm)]
        · rw [if_neg ej, if_neg ej]
open Classical in
theorem getT_snoc {k v j : D} : ∀ {kvs : List (D × D)}, k ∉ kvs.map (·.1) → getT (kvs ++ [(k, v)]) j = if j = k then some v else getT kvs j
  | [], _ => by
    show getT [(k, v)] j = _
    by_cases ej : j = k
    · rw [if_pos ej, getT_pos ej.symm]
    · rw [if_neg ej, getT_neg (fun z => ej z.symm)]
  | p :: kvs, h => by
    rw [List.map_cons, List.mem_cons, not_or] at h
    rw [List.cons_append]
    by_cases epj : p.1 = j
    · rw [getT_pos epj, getT_pos epj, if_neg (fun z => h.1 (z.symm.trans epj.symm))]
    · rw [getT_neg epj, getT_neg epj]
      exact getT_snoc h.2
open Classical in
theorem getT_put {kvs : List (D × D)} {k v j : D} : getT (putT kvs k v) j = if j = k then some v else getT kvs j := by
  by_cases h : k ∈ kvs.map (·.1)
  · rw [putT, if_pos h, getT_rep, if_pos h]
  · rw [putT, if_neg h, getT_snoc h]
/-! ### what is told and what is tracked -/
section
variable {K : PySem.W.Frag} {H : Hp} {kvs : List (D × D)} {xs : List XEn}
theorem RepXs.keys : ∀ {kvs : List (D × D)} {xs : List XEn}, RepXs K H kvs xs → xs.map (·.1) = kvs.map fun p => nk p.1
  | [], _, h => by cases h; rfl
  | (k, d) :: kvs, _, h => by
    obtain ⟨x, y, r, rfl, _, _, h4⟩ := h
    rw [List.map_cons, List.map_cons, RepXs.keys h4]
theorem RepXs.length : ∀ {kvs : List (D × D)} {xs : List XEn}, RepXs K H kvs xs → kvs.length = xs.length
  | [], _, h => by cases h; rfl
  | (k, d) :: kvs, _, h => by
    obtain ⟨x, y, r, rfl, _, _, h4⟩ := h
    rw [List.length_cons, List.length_cons, RepXs.length h4]
theorem nk_mem {k : D} (hk : Fine 8 k) : ∀ {kvs : List (D × D)}, (∀ p ∈ kvs, Fine 8 p.1) → (nk k ∈ kvs.map (fun p => nk p.1) ↔ k ∈ kvs.map (·.1))
  | [], _ => by simp
  | p :: kvs, h => by
    rw [List.map_cons, List.map_cons, List.mem_cons, List.mem_cons, nk_mem hk fun q hq => h q (List.mem_cons_of_mem _ hq)]
    constructor
    · rintro (e | e)
      · exact .inl (nk_inj hk (h p (List.mem_cons_self ..)) e)
      · exact .inr e
    · rintro (e | e)
      · exact .inl (by rw [e])
      · exact .inr e
theorem KvX.nks (h : KvX kvs) : (kvs.map fun p => nk p.1).Nodup := by
  obtain ⟨hf, hn⟩ := h
  induction kvs with
  | nil => exact List.nodup_nil
  | cons p kvs ih =>
    rw [List.map_cons, List.nodup_cons] at hn ⊢
    exact ⟨fun z => hn.1 ((nk_mem (hf p (List.mem_cons_self ..)) fun q hq => hf q (List.mem_cons_of_mem _ hq)).mp z), ih (fun q hq => hf q (List.mem_cons_of_mem _ hq)) hn.2⟩
theorem RepXs.val {k : D} (hk : Fine 8 k) : ∀ {kvs : List (D × D)} {xs : List XEn}, (∀ p ∈ kvs, Fine 8 p.1) → RepXs K H kvs xs → (getT kvs k = none ∧ valX xs (nk k) = none) ∨ ∃ d v, getT kvs k = some d ∧ valX xs (nk k) = some v ∧ Rep K H d v
  | [], _, _, h => by cases h; exact .inl ⟨rfl, rfl⟩
  | (j, d) :: kvs, _, hf, h => by
    obtain ⟨x, y, r, rfl, h2, h3, h4⟩ := h
    by_cases e : j = k
    · subst e
      exact .inr ⟨d, y, getT_pos rfl, by simp [valX, List.find?_cons], h3⟩
    · have ne : ¬ nk j = nk k := fun z => e (nk_inj (hf _ (List.mem_cons_self ..)) hk z)
      rw [getT_neg (p := (j, d)) e, show valX ((nk j, x, y) :: r) (nk k) = valX r (nk k) by simp [valX, List.find?_cons, ne]]
      exact RepXs.val hk (fun q hq => hf q (List.mem_cons_of_mem _ hq)) h4
theorem RepXs.snoc {k d : D} {x y : V} (r1 : Rep K H k x) (r2 : Rep K H d y) : ∀ {kvs : List (D × D)} {xs : List XEn}, RepXs K H kvs xs → RepXs K H (kvs ++ [(k, d)]) (xs ++ [(nk k, x, y)])
  | [], _, h => by cases h; exact ⟨x, y, [], rfl, r1, r2, rfl⟩
  | (j, e) :: kvs, _, h => by
    obtain ⟨x', y', r, rfl, h2, h3, h4⟩ := h
    exact ⟨x', y', _, rfl, h2, h3, RepXs.snoc r1 r2 h4⟩
open Classical in
theorem RepXs.repl {k d : D} {y : V} (hk : Fine 8 k) (r2 : Rep K H d y) : ∀ {kvs : List (D × D)} {xs : List XEn}, (∀ p ∈ kvs, Fine 8 p.1) → RepXs K H kvs xs →
    RepXs K H (kvs.map fun p => if p.1 = k then (p.1, d) else p) (xs.map fun e => if e.1 = nk k then (e.1, e.2.1, y) else e)
  | [], _, _, h => by cases h; rfl
  | (j, e) :: kvs, _, hf, h => by
    obtain ⟨x', y', r, rfl, h2, h3, h4⟩ := h
    have ih := RepXs.repl (kvs := kvs) hk r2 (fun q hq => hf q (List.mem_cons_of_mem _ hq)) h4
    rw [List.map_cons, List.map_cons]
    by_cases e' : j = k
    · subst e'
      rw [if_pos rfl, if_pos rfl]
      exact ⟨x', y, _, rfl, h2, r2, ih⟩
    · rw [if_neg e', if_neg (fun z => e' (nk_inj (hf _ (List.mem_cons_self ..)) hk z))]
      exact ⟨x', y', _, rfl, h2, h3, ih⟩
theorem RepXs.put {k d : D} {x y : V} (hk : Fine 8 k) (hf : ∀ p ∈ kvs, Fine 8 p.1) (h : RepXs K H kvs xs) (r1 : Rep K H k x) (r2 : Rep K H d y) : RepXs K H (putT kvs k d) (putX xs (nk k) x y) := by
  classical
  unfold putT putX
  have e : nk k ∈ xs.map (·.1) ↔ k ∈ kvs.map (·.1) := by rw [h.keys]; exact nk_mem hk hf
  by_cases hm : k ∈ kvs.map (·.1)
  · rw [if_pos hm, if_pos (e.mpr hm)]
    exact h.repl hk r2 hf
  · rw [if_neg hm, if_neg (fun z => hm (e.mp z))]
    exact h.snoc r1 r2
end
/-! ### asked of, put -/
/-- looked up in such a dict -/
def DX (m : Mp) (a : Addr) (y : D) (o : Option D) : Prop := ∃ kvs, m a = some (.dD kvs) ∧ KvX kvs ∧ Fine 8 y ∧ o = getT kvs y
/-- what stands behind a look-up, as tracked -/
def XGet (K : PySem.W.Frag) (w : World) (H : Hp) (a : Addr) (x : V) (o : Option V) : Prop := ∃ kvs xs y, H a = some (dxH w a xs) ∧ RepXs K H kvs xs ∧ KvX kvs ∧ Fine 8 y ∧ Rep K H y x ∧ o = valX xs (nk y)
theorem DX.up {K : PySem.W.Frag} {cl : Cl} {H : Hp} {m : Mp} {a : Addr} {y : D} {v : V} {o : Option D} (g : DX m a y o) (hm : Ab K cl H m) (ry : Rep K H y v) : ∃ ov, XGet K cl.w H a v ov ∧ ((o = none ∧ ov = none) ∨ ∃ d w, o = some d ∧ ov = some w ∧ Rep K H d w) := by
  obtain ⟨kvs, h1, hk, hy, rfl⟩ := g
  obtain ⟨xs, q1, q2⟩ := hm.1 a _ h1
  exact ⟨_, ⟨kvs, xs, y, q1, q2, hk, hy, ry, rfl⟩, q2.val hy hk.fine⟩
section
variable {X : Cx} {cl : Cl} {W : WX} {a b c : Expr} {A B I : TE3} {pos : Pos}
theorem xs_kys {pins : List (Addr × Obj)} {σ : L2.St} {H : Hp} {s : Shared} (J : Inv X pins σ H s) : ∀ {kvs : List (D × D)} {xs : List XEn}, (∀ p ∈ kvs, Fine 8 p.1) → RepXs X.K H kvs xs → ∀ x ∈ xs, ∀ v, RelV x.2.1 v → KyIs s.heap x.1 v
  | [], _, _, h, x, hx, _, _ => by cases h; cases hx
  | (k, d) :: kvs, _, hf, h, x, hx, v, rv => by
    obtain ⟨x', y', r, rfl, h2, h3, h4⟩ := h
    rcases List.mem_cons.mp hx with rfl | hx
    · have := hf _ (List.mem_cons_self ..)
      exact ⟨ky_rep J this h2 rv, nk_depth this⟩
    · exact xs_kys J (fun q hq => hf q (List.mem_cons_of_mem _ hq)) h4 x hx v rv
theorem XGet.on {pins : List (Addr × Obj)} {σ : L2.St} {H : Hp} {s : Shared} {p : Addr} {x : V} {o : Option V} {u : Value} (hu : X.A.units + 64 < cLine) (J : Inv X pins σ H s) (g : XGet X.K X.w H p x o) (ru : RelV x u) :
    ∃ xs k, H p = some (dxH X.w p xs) ∧ DxOn X.w X.A s p xs k u ∧ o = valX xs k := by
  obtain ⟨kvs, xs, y, h1, h2, hk, hy, ry, rfl⟩ := g
  exact ⟨xs, nk y, h1, ⟨by omega, ⟨ky_rep J hy ry ru, nk_depth hy⟩, dx_ok.mp (J.hok p _ h1), xs_kys J hk.fine h2, by rw [h2.keys]; exact hk.nks⟩, rfl⟩
theorem op_inX (hu : X.A.units + 64 < cLine) : OpR X (compareOp .In) (fun x y H Q => ∃ a o, y = .ref a ∧ XGet X.K X.w H a x o ∧ Q (.bl o.isSome) H) := by
  rintro pins s σ H x y v u Q J rx ry ⟨p, o, rfl, g, q⟩
  cases ry
  obtain ⟨xs, k, _, O, rfl⟩ := g.on hu J rx
  exact O.in_ ⟨.bl _, H, J.tok _, rfl, q⟩
theorem op_notInX (hu : X.A.units + 64 < cLine) : OpR X (compareOp .NotIn) (fun x y H Q => ∃ a o, y = .ref a ∧ XGet X.K X.w H a x o ∧ Q (.bl (!o.isSome)) H) := by
  rintro pins s σ H x y v u Q J rx ry ⟨p, o, rfl, g, q⟩
  cases ry
  obtain ⟨xs, k, _, O, rfl⟩ := g.on hu J rx
  exact O.notIn ⟨.bl _, H, J.tok _, rfl, q⟩
def fInX (neg : Bool) : D → D → Mp → K3 → Prop := fun u v m k => fIn neg u v m k ∨ ∃ a o, v = .ref a ∧ DX m a u o ∧ k (inB neg o.isSome) m
theorem mono_fInX {neg : Bool} : MonoF (fInX neg) := fun u v m k k' hk h => h.elim (fun h => .inl (mono_fIn u v m k k' hk h)) fun ⟨a, o, h1, h2, h3⟩ => .inr ⟨a, o, h1, h2, hk _ _ h3⟩
theorem up_inX {neg : Bool} {r rx : R2} (hw : X.w = cl.w) (h0 : ∀ (H : Hp) (m : Mp) (u v : D) (x y : V) (Q : VK), Rep X.K H u x → Rep X.K H v y → Ab X.K cl H m → fIn neg u v m (cE X.K cl H Q) → r x y H Q)
    (hd : ∀ x a ov H Q, XGet X.K X.w H a x ov → Q (.bl (if neg then !ov.isSome else ov.isSome)) H → rx x (.ref a) H Q) (H : Hp) (m : Mp) (u v : D) (x y : V) (Q : VK) (ru : Rep X.K H u x) (rv : Rep X.K H v y) (hm : Ab X.K cl H m)
    (h : fInX neg u v m (cE X.K cl H Q)) : r x y H Q ∨ rx x y H Q := by
  rcases h with h | ⟨p, o, rfl, h2, h3⟩
  · exact .inl (h0 H m u v x y Q ru rv hm h)
  · have rv' : y = .ref p := rv
    subst rv'
    obtain ⟨ov, g, e⟩ := h2.up hm ru
    refine .inr (hd _ _ ov H Q (hw ▸ g) ?_)
    have := h3 _ _ rfl hm (Ext.refl H)
    rcases e with ⟨rfl, rfl⟩ | ⟨d, w, rfl, rfl, _⟩ <;> exact this
theorem q_inX (hw : X.w = cl.w) (hu : X.A.units + 64 + 2 < cLine) (ha : QE X cl W a A) (hb : QE X cl W b B) (hm : behindInMarks .In b = false) : QE X cl W (.Compare a [.In] [b] pos) (eBin (fInX false) A B) :=
  q_cmp ((((op_inP hu).or op_in_str).or (op_inD (by omega))).or (op_inX (by omega))) (up_inX hw (up_in (fun i j H Q q => ⟨i, j, rfl, rfl, q⟩) fun x a ov H Q g q => ⟨a, ov, rfl, g, q⟩) fun x a ov H Q g q => ⟨a, ov, rfl, g, q⟩) mono_fInX ha hb hm
theorem q_notinX (hw : X.w = cl.w) (hu : X.A.units + 64 + 2 < cLine) (ha : QE X cl W a A) (hb : QE X cl W b B) (hm : behindInMarks .NotIn b = false) : QE X cl W (.Compare a [.NotIn] [b] pos) (eBin (fInX true) A B) :=
  q_cmp ((((op_notInP hu).or op_notin_str).or (op_notInD (by omega))).or (op_notInX (by omega))) (up_inX hw (up_in (fun i j H Q q => ⟨i, j, rfl, rfl, q⟩) fun x a ov H Q g q => ⟨a, ov, rfl, g, q⟩) fun x a ov H Q g q => ⟨a, ov, rfl, g, q⟩) mono_fInX ha hb hm
theorem t_inX (hw : X.w = cl.w) (hu : X.A.units + 64 + 2 < cLine) (ha : QE X cl W a A) (hb : QE X cl W b B) (hm : behindInMarks .In b = false) : QT X cl W (.Compare a [.In] [b] pos) (tBv (eBin (fInX false) A B)) :=
  t_cmp ((((op_inP hu).or op_in_str).or (op_inD (by omega))).or (op_inX (by omega))) (up_inX hw (up_in (fun i j H Q q => ⟨i, j, rfl, rfl, q⟩) fun x a ov H Q g q => ⟨a, ov, rfl, g, q⟩) fun x a ov H Q g q => ⟨a, ov, rfl, g, q⟩) mono_fInX ha hb hm
theorem t_notinX (hw : X.w = cl.w) (hu : X.A.units + 64 + 2 < cLine) (ha : QE X cl W a A) (hb : QE X cl W b B) (hm : behindInMarks .NotIn b = false) : QT X cl W (.Compare a [.NotIn] [b] pos) (tBv (eBin (fInX true) A B)) :=
  t_cmp ((((op_notInP hu).or op_notin_str).or (op_notInD (by omega))).or (op_notInX (by omega))) (up_inX hw (up_in (fun i j H Q q => ⟨i, j, rfl, rfl, q⟩) fun x a ov H Q g q => ⟨a, ov, rfl, g, q⟩) fun x a ov H Q g q => ⟨a, ov, rfl, g, q⟩) mono_fInX ha hb hm
/-! d[k] -/
def rIxXk (K : PySem.W.Frag) (w : World) : R2 := fun x y H Q => ∃ a v, x = .ref a ∧ XGet K w H a y (some v) ∧ Q v H
theorem ix_dictX (hu : X.A.units + 64 < cLine) : IxR X (rIxXk X.K X.w) := by
  rintro value slice pins s σ H x y v u Q J rx ry ⟨p, w, rfl, g, q⟩ hs
  cases rx
  obtain ⟨xs, k, _, O, hv⟩ := g.on hu J ry
  exact tail_any (dx_typeIs O.di) PySem.F.slot_dict_getitem.lookup (O.item hv.symm fun r rr => ⟨w, H, J.tok _, rr, q⟩) hs
def fIxX : D → D → Mp → K3 → Prop := fun u v m k => fIx u v m k ∨ ∃ p d, u = .ref p ∧ DX m p v (some d) ∧ k d m
theorem mono_ixX : MonoF fIxX := fun u v m k k' hk h => h.elim (fun h => .inl (mono_ix u v m k k' hk h)) fun ⟨p, d, h1, h2, h3⟩ => .inr ⟨p, d, h1, h2, hk _ _ h3⟩
theorem up_ixX (hw : X.w = cl.w) (H : Hp) (m : Mp) (u v : D) (x y : V) (Q : VK) (rx : Rep X.K H u x) (ry : Rep X.K H v y) (hm : Ab X.K cl H m) (h : fIxX u v m (cE X.K cl H Q)) : (rIx X.K x y H Q ∨ rIxDk x y H Q) ∨ rIxXk X.K X.w x y H Q := by
  rcases h with h | ⟨p, d, rfl, h2, h3⟩
  · exact .inl (up_ix H m u v x y Q rx ry hm h)
  · have rx' : x = .ref p := rx
    subst rx'
    obtain ⟨ov, g, e⟩ := h2.up hm ry
    rcases e with ⟨e, _⟩ | ⟨d', w, e, rfl, e3⟩
    · cases e
    · cases e
      exact .inr ⟨p, w, rfl, hw ▸ g, h3 _ _ e3 hm (Ext.refl H)⟩
theorem q_ixX (hw : X.w = cl.w) (hu : X.A.units + 64 < cLine) (ha : QE X cl W a A) (hb : QE X cl W b B) (hs : PlainIx b) : QE X cl W (.Subscript a b pos) (eBin fIxX A B) :=
  ⟨mono_bin mono_ixX ha.mono hb.mono, PE.imp (pe_ix ((ix_seq.or (ix_dict (by omega))).or (ix_dictX hu)) ha.run hb.run hs) (two_up ha.mono hb.mono (up_ixX hw) mono_ixX)⟩
/-! {} -/
def eDicX : TE3 := fun _ m k _ => ∀ p, m p = none → k (.ref p) (mset m p (.dD []))
theorem dx_empty {w : World} {h : Heap} (hb : sysModules < h.objs.size) : DxAt w h.objs.size [] (h.push { cls := .type "dict", data := .dict #[] }) :=
  ⟨Nat.zero_le _, beq_eq_false_iff_ne.mpr fun e => absurd hb (by rw [← e]; exact Nat.lt_irrefl _), _, #[], 0, Heap.get?_push_size _ rfl, ⟨rfl, rfl, rfl⟩, rfl, .nil⟩
theorem pe_dnewX : PE X (.Dict [] [] pos) (fun _ H Q => ∀ p, H p = none → Q (.ref p) (upd H p (dxH X.w p []))) := ⟨fun pins s σ H Q J h =>
  wpAny_Dict_empty ⟨.ref s.heap.objs.size, _, J.laid (a := s.heap.objs.size) (o := dxH X.w s.heap.objs.size []) (t' := s.toks) (fun _ _ q => Heap.get?_push_of_some _ q) (Nat.le_refl _) (dx_ok.mpr (dx_empty J.big)), rfl, h _ (J.hok.fresh (Nat.le_refl _))⟩⟩
theorem q_dicX (hw : X.w = cl.w) : QE X cl W (.Dict [] [] pos) eDicX :=
  ⟨fun s m k k' x x' hk hx q p hp => hk _ _ (q p hp),
   PE.imp pe_dnewX fun σ H Q ⟨s, m, hs, hm, q⟩ p hp => q p (hm.free hp) _ _ rfl (hm.new hp ⟨[], by rw [hw]; exact upd_same, rfl⟩) (Ext.new hp)⟩
/-! d[k] = v -/
def rSetX (K : PySem.W.Frag) (w : World) : TSet := fun o i v H Q => ∃ a kvs xs y, o = .ref a ∧ H a = some (dxH w a xs) ∧ RepXs K H kvs xs ∧ KvX kvs ∧ Fine 8 y ∧ Rep K H y i ∧ xs.length < sizeLine ∧ Q (upd H a (dxH w a (putX xs (nk y) i v)))
theorem set_dictX (hu : X.A.units + 64 < cLine) : PSet X (rSetX X.K X.w) := by
  rintro pins s σ H o i v ov iv u Q J ro ri rv ⟨p, kvs, xs, y, rfl, h1, h2, hk, hy, hr, hl, q⟩
  cases (show ov = Value.ref p from ro)
  have O : DxOn X.w X.A s p xs (nk y) iv := ⟨by omega, ⟨ky_rep J hy hr ri, nk_depth hy⟩, dx_ok.mp (J.hok p _ h1), xs_kys J hk.fine h2, by rw [h2.keys]; exact hk.nks⟩
  refine O.put hl ri rv fun h' a b => ⟨_, ?_, q⟩
  exact J.write (x := p) (e := p) (by rw [h1]; exact True.intro) (.inl rfl) (fun c v hc z => (b.2 c hc).trans z) (let ⟨_, _, o, _, _, ho, _⟩ := a; ⟨o, ho⟩) (dx_ok.mpr a)
def fSetX (o i v : D) (m : Mp) (k : Mp → Prop) : Prop := fSet o i v m k ∨ ∃ q kvs, o = .ref q ∧ m q = some (.dD kvs) ∧ KvX kvs ∧ Fine 8 i ∧ kvs.length < sizeLine ∧ k (mset m q (.dD (putT kvs i v)))
def sSubX (O I V : TE3) : TS3 := fun D s m => V s m (fun v m1 => O s m1 (fun o m2 => I s m2 (fun i m3 => fSetX o i v m3 (D.nx s)) (D.ex s)) (D.ex s)) (D.ex s)
theorem ext_dX {H : Hp} {w : World} {q : Addr} {xs : List XEn} {u : HO} (h : H q = some (dxH w q xs)) : Ext H (upd H q u) := Ext.put h (fun _ z => by cases z) (fun _ _ z => by cases z)
theorem qs_subX {O : TE3} {tpos : Pos} (hw0 : X.w = cl.w) (hu : X.A.units + 64 < cLine) (hv : QE X cl W a A) (ho : QE X cl W b O) (hi : QE X cl W c I)
    (ha : ∀ v, assign (.Subscript b c tpos) X.env v = (do
      let ov ← holding [v] (eval b X.env)
      let iv ← holding [v, ov] (eval c X.env)
      standAt tpos
      holding [v, ov, iv] (setItem ov iv v)
      release [v, ov, iv] []))
    (hs : swapsWithSole [.Subscript b c tpos] a pos.line X.env = pure false) (hw : swappedStores [.Subscript b c tpos] a X.env = pure none) (h1 : (assignEach [.Subscript b c tpos] X.env).map (·.2) = [assign (.Subscript b c tpos) X.env]) :
    QS X cl W (.Assign [.Subscript b c tpos] a pos) (sSubX O I A) := by
  refine ⟨fun s m D D' l q => hv.mono _ _ _ _ _ _ (fun v m1 z => ho.mono _ _ _ _ _ _ (fun o m2 y => hi.mono _ _ _ _ _ _ (fun i m3 z => by
      rcases z with (⟨p, ls, n, j, e1, e2, e3, e4, w⟩ | ⟨p, ls, n, e1, e2, e3, e4, w⟩) | ⟨p, kvs, e1, e2, e3, e4, e5, w⟩
      · exact .inl (.inl ⟨p, ls, n, j, e1, e2, e3, e4, l.nx _ _ w⟩)
      · exact .inl (.inr ⟨p, ls, n, e1, e2, e3, e4, l.nx _ _ w⟩)
      · exact .inr ⟨p, kvs, e1, e2, e3, e4, e5, l.nx _ _ w⟩) (fun _ _ z => l.ex _ _ _ z) y) (fun _ _ z => l.ex _ _ _ z) z) (fun _ _ z => l.ex _ _ _ z) q, ?_⟩
  refine PS.imp (ps_asg hv.run (pg_sub ho.run hi.run (pset_or (pset_or set_list (set_dict (by omega))) (set_dictX hu)) ha) hs hw h1) fun D σ H ⟨s, m, hs, hm, q⟩ => ?_
  refine ⟨s, m, hs, hm, hv.mono _ _ _ _ _ _ (fun v m1 z x H1 rx hm1 e1 => ?_) (fun _ _ z => ex_cX hs z) q⟩
  refine ⟨s, m1, hs.mono e1, hm1, ho.mono _ _ _ _ _ _ (fun o m2 y xo H2 ro hm2 e2 => ?_) (fun _ _ z => cX_ext e1 (ex_cX hs z)) z⟩
  refine ⟨s, m2, hs.mono (e1.trans e2), hm2, hi.mono _ _ _ _ _ _ (fun i m3 w xi H3 ri hm3 e3 => ?_) (fun _ _ z => cX_ext (e1.trans e2) (ex_cX hs z)) y⟩
  rcases w with (⟨q, ls, n, j, rfl, rfl, e4, e5, w⟩ | ⟨q, kvs, n, rfl, rfl, e4, e5, w⟩) | ⟨q, kvs, rfl, e4, hk, hy, e5, w⟩
  · obtain ⟨vs, q1, q2⟩ := hm3.1 q _ e4
    have ex := ext_lst (u := .lst (vs.set j x)) q1
    refine .inl (.inl ⟨q, vs, n, j, ro, ri, q1, by rw [← q2.length]; exact e5, ?_⟩)
    exact w σ _ (hs.mono (((e1.trans e2).trans e3).trans ex)) (put_lst hm3 q1 (q2.set (rx.mono (e2.trans e3)) j)) (((e1.trans e2).trans e3).trans ex)
  · have ri' := rep_key ri
    subst ri'
    obtain ⟨vs, q1, q2⟩ := hm3.1 q _ e4
    have ex := ext_dK (u := .dK (putK vs n x)) q1
    refine .inl (.inr ⟨q, _, ro, DPut.k q1 (by rw [← q2.length]; exact e5), ?_⟩)
    exact w σ _ (hs.mono (((e1.trans e2).trans e3).trans ex)) (hm3.put ex ⟨_, upd_same, (q2.put (rx.mono (e2.trans e3))).mono ex⟩) (((e1.trans e2).trans e3).trans ex)
  · obtain ⟨xs, q1, q2⟩ := hm3.1 q _ e4
    have q1' : H3 q = some (dxH X.w q xs) := hw0 ▸ q1
    have ex := ext_dX (u := dxH X.w q (putX xs (nk i) xi x)) q1'
    refine .inr ⟨q, kvs, xs, i, ro, q1', q2, hk, hy, ri, by rw [← q2.length]; exact e5, ?_⟩
    exact w σ _ (hs.mono (((e1.trans e2).trans e3).trans ex)) (hm3.put ex ⟨_, by rw [hw0]; exact upd_same, (q2.put hy hk.fine ri (rx.mono (e2.trans e3))).mono ex⟩) (((e1.trans e2).trans e3).trans ex)
end
end PV

/-! zip of a tuple and a list. -/
namespace PV
open PySem L2 PyProof.Rows
/-- of the tuple at a and the list at b, as they stand at each turn, new pairs -/
def ItzM (K : PySem.W.Frag) (a b : Addr) : It where
  go i H := ∃ (xs ys : List V) (x y : V), SqT K H a xs ∧ SqL K H b ys ∧ xs[i]? = some x ∧ ys[i]? = some y
  yld i H v H' := ∃ t x y, v = .ref t ∧ H t = none ∧ H' = upd H t (.tup [x, y]) ∧ (∀ xs, SqT K H a xs → xs[i]? = some x) ∧ ∀ ys, SqL K H b ys → ys[i]? = some y
  stop i H := ∃ xs ys : List V, SqT K H a xs ∧ SqL K H b ys ∧ i ≤ xs.length ∧ i ≤ ys.length ∧ (i = xs.length ∨ i = ys.length)
/-- what stands of the zip ahead of turn i -/
def ZmAt (a b z p q i1 i2 : Addr) (i : Nat) (h : Heap) : Prop := IsZip h z p q .none ∧ IsPair h p (.ref i1) (.ref i2) ∧ (∃ x y, IsPair h q x y) ∧ h.IsTupleIter i1 a i ∧ h.IsListIter i2 b i
section
variable {a b z p q i1 i2 : Addr}
theorem zm_mem {P : Addr → Prop} (h1 : P z) (h2 : P p) (h3 : P q) (h4 : P i1) (h5 : P i2) : ∀ c, c ∈ [z, p, q, i1, i2] → P c := fun c hc => by
  simp only [List.mem_cons, List.not_mem_nil, or_false] at hc
  rcases hc with rfl | rfl | rfl | rfl | rfl <;> assumption
theorem zm_out {c : Addr} (hc : c ∉ [z, p, q, i1, i2]) : c ≠ z ∧ c ≠ q ∧ c ≠ i1 ∧ c ≠ i2 := ⟨fun e => hc (by simp [e]), fun e => hc (by simp [e]), fun e => hc (by simp [e]), fun e => hc (by simp [e])⟩
theorem zm_sep (D : ZipApart z p q i1 i2 a b) : ZipSep2 z p q i1 i2 [i1, a] [i2, b] where
  TIz := D.TIz
  TOz := D.TOz
  TITO := D.TITO
  TIi1 := D.TIi1
  mem1 := List.mem_cons_self ..
  zf1 := ni_cons D.i1z.symm (ni_cons D.l1z.symm ni_nil)
  Tf1 := ni_cons D.TOi1 (ni_cons D.l1TO.symm ni_nil)
  TIi2 := D.TIi2
  mem2 := List.mem_cons_self ..
  zf2 := ni_cons D.i2z.symm (ni_cons D.l2z.symm ni_nil)
  Tf2 := ni_cons D.TOi2 (ni_cons D.l2TO.symm ni_nil)
  sep1_2 := ni_cons D.i12 (ni_cons D.l2i1.symm ni_nil)
  sep2_1 := ni_cons D.i12.symm (ni_cons D.l1i2.symm ni_nil)
theorem turn_zipM {P : Program} {w : World} {K : PySem.W.Frag} {elts : List Expr} {kk : Nat} {tpos : Pos} (D : ZipApart z p q i1 i2 a b) : Turn P w K (.Tuple elts kk tpos) (ItzM K a b) [z, p, q, i1, i2] z (ZmAt a b z p q i1 i2) where
  mem := List.mem_cons_self ..
  obj := fun i h ⟨hz, hp, ⟨x, y, hq⟩, ⟨o1, e1, _, d1⟩, ⟨o2, e2, _, d2⟩⟩ => zm_mem ⟨_, hz, fun v r => nomatch r⟩ ⟨_, hp, fun v r => nomatch r⟩ ⟨_, hq, fun v r => nomatch r⟩ ⟨o1, e1, fun v r => (nomatch d1.symm.trans r)⟩ ⟨o2, e2, fun v r => (nomatch d2.symm.trans r)⟩
  keep := fun i h h' ⟨hz, hp, ⟨x, y, hq⟩, h1, h2⟩ k => by
    have k' : ∀ c ∈ [z, p, q, i1, i2], ∀ o, h.get? c = some o → h'.get? c = some o := k
    exact ⟨k' z (by simp) _ hz, k' p (by simp) _ hp, ⟨x, y, k' q (by simp) _ hq⟩, h1.at (k' i1 (by simp)), h2.at (k' i2 (by simp))⟩
  item := by
    rintro X rfl rfl rfl hc i pins s σ H E J hf ⟨hz, hp, ⟨x0, y0, hq⟩, h1, h2⟩ ⟨xs, ys, x, y, hqx, hqy, hx, hy⟩
    obtain ⟨ia, ra, pa, _⟩ := J.tuple hqx
    obtain ⟨ib, rb, pb, _⟩ := J.list hqy
    obtain ⟨u, hu, ru⟩ := ra.get hx
    obtain ⟨v, hv, rv⟩ := rb.get hy
    have hh := J.ok.hd hc
    have lt1 : i < ia.toArray.size := by simpa using (List.getElem?_eq_some_iff.mp hu).1
    have lt2 : i < ib.toArray.size := by simpa using (List.getElem?_eq_some_iff.mp hv).1
    refine wpAny_pyNext_zipD2_item (zm_sep D) (Draws.tuple (A := X.A.in1) hh i1 a D.l1i1 ia.toArray) (Draws.list (A := X.A.in1) hh i2 b D.l2i2 ib.toArray) hz hp hq ⟨h1, pa⟩ ⟨h2, pb.isList⟩ lt1 lt2 fun u' v' h' tk eu ev z' q' t1 t2 hT hsz hk => ?_
    obtain rfl : u' = u := by
      have e : ia[i]? = some u' := by simpa using eu
      rw [hu] at e
      exact (Option.some.inj e).symm
    obtain rfl : v' = v := by
      have e : ib[i]? = some v' := by simpa using ev
      rw [hv] at e
      exact (Option.some.inj e).symm
    refine ⟨_, rfl, wpAny_letOwnedTupleGo_zip (s := { s with heap := h', toks := tk }) z' fun g gz sb => ?_⟩
    have zl := Heap.lt_size hz
    have keep : ∀ c o, c ≠ z → h'.get? c = some o → g.get? c = some o := fun c o ne e => (sb.2 c ne).trans e
    have made : ObjOk X.prog X.w (upd H s.heap.objs.size (.tup [x, y])) g s.heap.objs.size (.tup [x, y]) := ⟨(by show 2 ≤ sizeLine; decide), [u', v'], .cons ru (.cons rv .nil), _, keep _ _ (Nat.ne_of_gt zl) hT, rfl, _, rfl⟩
    have J1 : Inv X pins σ (upd H s.heap.objs.size (.tup [x, y])) { s with heap := g, toks := tk } := J.turnedNew (t' := tk) (ch := [z, p, q, i1, i2]) (fun c o hb e => by
      obtain ⟨n1, n2, n3, n4⟩ := zm_out hb
      exact keep c o n1 (hk c o n1 n2 n3 n4 e)) hf (Nat.le_refl _) made
    refine ⟨.ref s.heap.objs.size, _, J1, rfl, ⟨_, x, y, rfl, J.hok.fresh (Nat.le_refl _), rfl, fun l hl => J.tuple_inj hl hqx ▸ hx, fun l hl => J.list_inj hl hqy ▸ hy⟩, ⟨gz, keep _ _ D.TIz (hk _ _ D.TIz D.TITO D.TIi1 D.TIi2 hp), ⟨u', v', keep _ _ D.TOz q'⟩, t1.1.at fun o => keep i1 o D.i1z, t2.1.at fun o => keep i2 o D.i2z⟩, fun c hcm => ?_⟩
    rw [upd_ne (Nat.ne_of_lt (zm_mem (P := fun c => c < s.heap.objs.size) zl (Heap.lt_size hp) (Heap.lt_size hq) (let ⟨_, e, _⟩ := h1; Heap.lt_size e) (let ⟨_, e, _⟩ := h2; Heap.lt_size e) c hcm))]
    exact (hf c hcm).1
  done := by
    rintro X rfl rfl rfl hc i pins s σ H E J hf ⟨hz, hp, ⟨x0, y0, hq⟩, h1, h2⟩ ⟨xs, ys, hqx, hqy, g1, g2, hend⟩
    obtain ⟨ia, ra, pa, _⟩ := J.tuple hqx
    obtain ⟨ib, rb, pb, _⟩ := J.list hqy
    have hh := J.ok.hd hc
    have l1 : xs.length = ia.toArray.size := by rw [ra.length]; simp
    have l2 : ys.length = ib.toArray.size := by rw [rb.length]; simp
    refine wpAny_pyNext_zipD2_end (zm_sep D) (Draws.tuple (A := X.A.in1) hh i1 a D.l1i1 ia.toArray) (Draws.list (A := X.A.in1) hh i2 b D.l2i2 ib.toArray) hz hp hq ⟨h1, pa⟩ ⟨h2, pb.isList⟩ (by omega) (by omega) (by omega) fun h' tk hk => ⟨rfl, ?_⟩
    exact J.turnedL (t' := tk) (ch := [z, p, q, i1, i2]) (fun c o hb e => by
      obtain ⟨n1, n2, n3, n4⟩ := zm_out hb
      exact hk c o n1 n2 n3 n4 e) hf
  self := fun A i s Q E st h => wpAny_pyIter_zip st.1 h
end
/-! the call -/
abbrev zmI (c : String) (l : Addr) : Obj := { cls := .type c, data := .fields #[.ref l, .int 0 0] }
abbrev zmP (u v : Value) : Obj := { cls := .type "tuple", data := .seq #[u, v] }
abbrev zm1 (h : Heap) (a b : Addr) : Heap := (h.push (zmI "tuple_iterator" a)).push (zmI "list_iterator" b)
abbrev zm2 (h : Heap) (a b : Addr) : Heap := (zm1 h a b).push (zmP (.ref h.objs.size) (.ref (h.push (zmI "tuple_iterator" a)).objs.size))
abbrev zm3 (h : Heap) (a b : Addr) : Heap := (zm2 h a b).push (zmP .none .none)
abbrev zm4 (h : Heap) (a b : Addr) : Heap := (zm3 h a b).push { cls := .type "zip", data := .fields #[.none, .bool false, .bool false, .ref (zm1 h a b).objs.size, .ref (zm2 h a b).objs.size] }
theorem meets_zipM (a b : Addr) (xs ys : Array Value) : PySem.Meets (Builtin.«zip.__new__» ⟨[.type "zip", .ref a, .ref b], []⟩) (fun _ R s => s.heap.IsTuple a xs ∧ s.heap.IsList b ys ∧ R (.ok (.ret (.ref (zm3 s.heap a b).objs.size))) { s with heap := zm4 s.heap a b }) := .of_wp fun prog w A R s h => by
  obtain ⟨hp, g, d, tk, os⟩ := s
  obtain ⟨ha, hb, h⟩ := h
  have sub_ := sub_zip
  have t1 : Heap.IsTuple (Shared.heap ⟨hp, g, d, tk, os⟩) a xs := ha
  have t2 : Heap.IsList (Shared.heap ⟨hp.push (zmI "tuple_iterator" a), g, d, tk, os⟩) b ys := Heap.IsList.push hb _
  wp_walk using wpAny_pyIter_tuple t1, wpAny_pyIter_list t2
  exact ⟨_, rfl, h⟩
theorem call_zipM {prog : Program} {w : World} {A : Around} {E : Value → Shared → Prop} {s : Shared} {a b : Addr} {xs ys : Array Value} {Q : Value → Shared → Prop} (ha : s.heap.IsTuple a xs) (hb : s.heap.IsList b ys)
    (h : ∀ h', ZmAt a b (s.heap.objs.size + 4) (s.heap.objs.size + 2) (s.heap.objs.size + 3) s.heap.objs.size (s.heap.objs.size + 1) 0 h' → (∀ c o, s.heap.get? c = some o → h'.get? c = some o) → Q (.ref (s.heap.objs.size + 4)) { s with heap := h' }) :
    wpAny (model prog w) A (call (.type "zip") [.ref a, .ref b]) Q E s := by
  refine callType_new F.called_zip (by decide) (F.typeCall_zip_2 _ _) (F.newCall_zip_2 _ _) (fun obj => F.args_object_init_3 obj _ _) F.entry_zip_new (meets_zipM a b xs ys) ⟨ha, hb, ?_⟩
  have e0 : (s.heap.push (zmI "tuple_iterator" a)).objs.size = s.heap.objs.size + 1 := Heap.size_push ..
  have e1 : (zm1 s.heap a b).objs.size = s.heap.objs.size + 2 := by rw [Heap.size_push, e0]
  have e2 : (zm2 s.heap a b).objs.size = s.heap.objs.size + 3 := by rw [Heap.size_push, e1]
  have e3 : (zm3 s.heap a b).objs.size = s.heap.objs.size + 4 := by rw [Heap.size_push, e2]
  have up : ∀ {h : Heap} {o : Obj} {c : Addr} {u : Obj}, h.get? c = some u → (h.push o).get? c = some u := fun e => Heap.get?_push_of_some _ e
  have g4 : (zm4 s.heap a b).get? (zm3 s.heap a b).objs.size = some _ := Heap.get?_push_size _ rfl
  have g3 : (zm4 s.heap a b).get? (zm2 s.heap a b).objs.size = some _ := up (Heap.get?_push_size _ rfl)
  have g2 : (zm4 s.heap a b).get? (zm1 s.heap a b).objs.size = some _ := up (up (Heap.get?_push_size _ rfl))
  have g1 : (zm4 s.heap a b).get? (s.heap.push (zmI "tuple_iterator" a)).objs.size = some _ := up (up (up (Heap.get?_push_size _ rfl)))
  have g0 : (zm4 s.heap a b).get? s.heap.objs.size = some _ := up (up (up (up (Heap.get?_push_size _ rfl))))
  show _ ∧ _
  rw [e1, e2, e3] at g4
  rw [e2] at g3
  rw [e0, e1] at g2
  rw [e0] at g1
  rw [e3]
  exact ⟨⟨_, g4, rfl⟩, h _ ⟨g4, g2, ⟨_, _, g3⟩, ⟨_, g0, rfl, rfl⟩, ⟨_, g1, rfl, rfl⟩⟩ fun c o x => up (up (up (up (up x))))⟩
section
variable {X : Cx} {cl : Cl} {W : WX} {e e2 : Expr} {R : TA3} {p pos tpos : Pos} {elts : List Expr} {kk : Nat}
theorem pi_zipM {ta : TA} (hg : Gl X "zip") (hm : X.mg "zip" = none) (ha : PA X [e, e2] ta) (hs : starEach [e, e2] X.env = (false, eval e X.env) :: starEach [e2] X.env) (hpl : (backTo pos (starEach [e2] X.env)).any (·.1) = false) :
    PI X (.Tuple elts kk tpos) (.Call (.Name "zip" p) [e, e2] [] pos) (fun σ H R => ta σ H fun vs H1 => ∃ a b xs ys, vs = [.ref a, .ref b] ∧ SqT X.K H1 a xs ∧ SqL X.K H1 b ys ∧ R (ItzM X.K a b) H1) := by
  refine ⟨fun pins s σ H R J h => Call_ (ld_blt J hg hm PyProof.Rows.boot_zip (PyProof.Rows.callWith_type1 (thn (ha.run pos pins s σ H _ J h) fun us s1 ⟨vs, H1, J1, r1, q1⟩ => ?_) hs hpl))⟩
  obtain ⟨a, b, xs, ys, rfl, hqx, hqy, q⟩ := q1
  obtain ⟨_, _, rfl, ru, rv⟩ := vals2 r1
  cases ru
  cases rv
  obtain ⟨ia, ra, pa, _⟩ := J1.tuple hqx
  obtain ⟨ib, rb, pb, _⟩ := J1.list hqy
  refine call_zipM pa pb.isList fun h' st hk => wpAny_pyIter_zip st.1 ?_
  have J2 : Inv X pins σ H1 { s1 with heap := h' } := J1.kept (t' := s1.toks) hk
  have la : a < s1.heap.objs.size := by obtain ⟨o, ho, _⟩ := pa; exact Heap.lt_size ho
  have fr : ∀ {j : Nat}, FpOk X pins H1 (s1.heap.objs.size + j) := J1.fpOk (Nat.le_add_right _ _) (J1.hok.fresh (Nat.le_add_right _ _))
  exact ⟨s1.heap.objs.size + 4, [s1.heap.objs.size + 4, s1.heap.objs.size + 2, s1.heap.objs.size + 3, s1.heap.objs.size, s1.heap.objs.size + 1], _, _, H1, rfl, J2, turn_zipM (PySem.W.ktu_apart s1.heap.objs.size a b la pb.lt), st, zm_mem fr fr fr (fr (j := 0)) fr, q⟩
theorem walk_zipM {q q' : Addr} {l r : List D} {vs : List V} {H0 : Hp} (h1 : SqT X.K H0 q vs) (h2 : Reps X.K H0 l vs) : Walk3 X.K cl H0 (ItzM X.K q q') (zipD l r) fun m => RL m q' r := fun i H m e0 hm hr hi => by
  have q1 := e0.sqT h1
  have q2 := h2.mono e0
  obtain ⟨ws, q3, q4⟩ := hm.rl hr
  rw [zipD_length] at hi
  refine ⟨fun e => ⟨vs, ws, q1, q3, by rw [← q2.length]; omega, by rw [← q4.length]; omega, by rw [zipD_length] at e; rw [← q2.length, ← q4.length]; omega⟩, fun d hd => ?_⟩
  obtain ⟨x, y, h1, h2, rfl⟩ := zipD_get hd
  obtain ⟨v, e1, r1⟩ := q2.get h1
  obtain ⟨w, e2, r2⟩ := q4.get h2
  refine ⟨⟨vs, ws, v, w, q1, q3, e1, e2⟩, ?_⟩
  rintro z _ ⟨t, a, b, rfl, hT, rfl, ha, hb⟩
  have f1 := ha vs q1
  have f2 := hb ws q3
  rw [e1] at f1; cases f1
  rw [e2] at f2; cases f2
  exact ⟨rep_tup hT ⟨_, _, rfl, r1, _, _, rfl, r2, rfl⟩, hm.hid hT, Ext.new hT⟩
def iZm (R : TA3) : TI3 := fun s m k x => R s m (fun ds m1 => ∃ l q r, ds = [.tup l, .ref q] ∧ RL m1 q r ∧ k (zipD l r) (fun m => RL m q r) m1) x
theorem qi_zipM (hg : Gl X "zip") (hm : X.mg "zip" = none) (ha : QA X cl W [e, e2] R) (hs : starEach [e, e2] X.env = (false, eval e X.env) :: starEach [e2] X.env) (hpl : (backTo pos (starEach [e2] X.env)).any (·.1) = false) :
    QI X cl W (.Tuple elts kk tpos) (.Call (.Name "zip" p) [e, e2] [] pos) (iZm R) :=
  ⟨fun s m k k' x x' hk hx h => ha.mono _ _ _ _ _ _ (fun ds m1 ⟨l, q, r, z1, z2, z3⟩ => ⟨l, q, r, z1, z2, hk _ _ _ z3⟩) hx h,
   PI.imp (pi_zipM hg hm ha.run hs hpl) fun σ H Q ⟨s, m, h1, h2, h⟩ => ⟨s, m, h1, h2, ha.mono _ _ _ _ _ _ (fun ds m1 ⟨l, q, r', z0, z1, w⟩ vs H1 r hm1 e1 => by
    subst z0
    obtain ⟨v, v', rfl, ⟨t, us, rfl, q1, q2⟩, y'⟩ := reps2 r
    cases y'
    obtain ⟨ws, q3, _⟩ := hm1.rl z1
    exact ⟨t, q, us, ws, rfl, q1, q3, w _ H1 (walk_zipM q1 q2) hm1 e1⟩) (fun _ _ z => z) h⟩⟩
theorem x_izm {s : S3} {m : Mp} {ki : List D → (Mp → Prop) → Mp → Prop} {x : X3} (h : R s m (fun ds m1 => ∃ l q r, ds = [.tup l, .ref q] ∧ RL m1 q r ∧ ki (zipD l r) (fun m => RL m q r) m1) x) : iZm R s m ki x := h
end
end PV

/-! A list turned about: xs[::-1]. -/
namespace PV
open PySem L2 PyProof.Rows
section
variable {X : Cx} {cl : Cl} {W : WX} {a g : Expr} {A C : TE3} {pos p2 : Pos}
/-- xs[::-1], by values -/
def tTrn (K : PySem.W.Frag) (te tc : TE) : TE := fun σ H Q => te σ H fun x H1 => tPart tc σ H1 fun o H2 => o = some (-1) ∧ ∃ q xs, x = .ref q ∧ SqL K H2 q xs ∧ ∀ p, H2 p = none → Q (.ref p) (upd H2 p (.lst xs.reverse))
theorem vals_rev : ∀ {xs : List V} {us : List Value}, Vals xs us → Vals xs.reverse us.reverse
  | _, _, .nil => .nil
  | x :: xs, u :: us, .cons r t => by
    rw [List.reverse_cons, List.reverse_cons]
    exact paired_snoc r (vals_rev t)
theorem pe_trn {te tc : TE} (ha : PE X a te) (hc : PE X g tc)
    (hs : ∀ b sl, subscripted (.Slice none none (some g) p2) false (.ref b) (.ref sl) = operate [.ref b, .ref sl] (getItem (.ref b) (.ref sl)) := by intros; with_unfolding_all rfl) :
    PE X (.Subscript a (.Slice none none (some g) p2) pos) (tTrn X.K te tc) := by
  constructor
  intro pins s σ H Q I hw
  refine Subscript_ (thn (ha.run pins s σ H _ I hw) ?_)
  rintro v s1 ⟨x, H1, J, rv, hw1⟩
  refine wpAny_Slice (thn (po_none.run pins s1 σ H1 (fun u H3 => u = none ∧ H3 = H1) J ⟨rfl, rfl⟩) ?_)
  rintro vl s2 ⟨_, _, J2, pl, rfl, rfl⟩
  refine thn (po_none.run pins s2 σ _ (fun u H3 => u = none ∧ H3 = _) J2 ⟨rfl, rfl⟩) ?_
  rintro vu s3 ⟨_, _, J3, pu, rfl, rfl⟩
  refine thn ((po_some hc).run pins s3 σ _ _ J3 hw1) ?_
  rintro vs s4 ⟨_, H4, J4, pw, rfl, q, xs, rfl, hx, hQ⟩
  cases rv
  have J5 := J4.kept (t' := s4.toks) (h' := s4.heap.push { cls := .type "slice", data := .fields #[vl, vu, vs] }) fun b ob z => Heap.get?_push_of_some _ z
  obtain ⟨its, r, ht, hz⟩ := J5.list hx
  have hn := r.length
  have hsz : its.length ≤ sizeLine := by omega
  refine tail_any (ops := [.ref q, .ref s4.heap.objs.size]) ht.isList.typeIs PySem.slot_list_getitem.lookup (wpAny_getItem_list_slice ht.isList (Heap.IsSliceOf.new _ vl vu vs) pl pu pw (fun z => by injection z; omega) ?_ (by rw [List.size_toArray]; exact hsz)) (hs _ _)
  rw [PySem.W.krv_pick]
  refine ⟨.ref _, _, J5.laid (t' := s4.toks) (o := .lst xs.reverse) (fun b ob z => Heap.get?_push_of_some _ z) (Nat.le_refl _) ?_, rfl, hQ _ (J5.hok.fresh (Nat.le_refl _))⟩
  exact ⟨by rw [List.length_reverse]; omega, _, 0, vals_rev r, Heap.get?_push_size _ rfl⟩
def eTrn (A C : TE3) : TE3 := fun s m κ x => A s m (fun d m1 => C s m1 (fun c m2 => c = .int (-1) ∧ ∃ q l, d = .ref q ∧ RL m2 q l ∧ ∀ p, m2 p = none → κ (.ref p) (mset m2 p (.lst l.reverse))) x) x
theorem q_trn (ha : QE X cl W a A) (hc : QE X cl W g C)
    (hs : ∀ b sl, subscripted (.Slice none none (some g) p2) false (.ref b) (.ref sl) = operate [.ref b, .ref sl] (getItem (.ref b) (.ref sl)) := by intros; with_unfolding_all rfl) :
    QE X cl W (.Subscript a (.Slice none none (some g) p2) pos) (eTrn A C) where
  mono := fun s m κ κ' x x' hκ hx h => ha.mono _ _ _ _ _ _ (fun d m1 z => hc.mono _ _ _ _ _ _ (fun o m2 ⟨e0, q, l, e, r, y⟩ => ⟨e0, q, l, e, r, fun p hp => hκ _ _ (y p hp)⟩) hx z) hx h
  run := PE.imp (pe_trn ha.run hc.run hs) fun σ H Q ⟨s, m, hs, hm, h⟩ => ⟨s, m, hs, hm, ha.mono _ _ _ _ _ _ (fun d m1 z v H1 rv hm1 e1 =>
    ⟨s, m1, hs.mono e1, hm1, hc.mono _ _ _ _ _ _ (fun o m2 ⟨e0, q, l, e, r, y⟩ w H2 rw2 hm2 e2 => by
      subst e0
      rw [e] at rv
      obtain ⟨xs, hx, rx⟩ := hm2.rl r
      exact ⟨-1, rw2, rfl, q, xs, rv, hx, fun p hp => y p (hm2.free hp) _ _ rfl (new_lst hm2 hp rx.reverse) ((e1.trans e2).trans (Ext.new hp))⟩) (fun _ _ w => cX_ext e1 w) z⟩) (fun _ _ z => z) h⟩
theorem x_trn {s : S3} {m : Mp} {κ : K3} {x : X3} (h : A s m (fun d m1 => C s m1 (fun c m2 => c = .int (-1) ∧ ∃ q l, d = .ref q ∧ RL m2 q l ∧ ∀ p, m2 p = none → κ (.ref p) (mset m2 p (.lst l.reverse))) x) x) : eTrn A C s m κ x := h
end
end PV

/-! A key taken out of a dict whose keys are things of any kind. -/
namespace PV
open PySem L2 PyProof.Rows
open Classical in
def outX (xs : List XEn) (k : NestedKey) : List XEn := xs.filter fun x => decide (x.1 ≠ k)
open Classical in
noncomputable def outT (kvs : List (D × D)) (k : D) : List (D × D) := kvs.filter fun p => decide (p.1 ≠ k)
theorem outX_at {k : NestedKey} : ∀ {xs : List XEn} {j : Nat}, (xs.map (·.1)).Nodup → (xs.map (·.1))[j]? = some k → outX xs k = xs.eraseIdx j
  | [], _, _, h => by simp at h
  | x :: xs, 0, hn, h => by
    obtain rfl : x.1 = k := by simpa using h
    rw [List.map_cons, List.nodup_cons] at hn
    unfold outX
    rw [List.filter_cons_of_neg (by simp), List.eraseIdx_zero]
    exact List.filter_eq_self.mpr fun y hy => decide_eq_true fun e => hn.1 (e ▸ List.mem_map_of_mem hy)
  | x :: xs, j + 1, hn, h => by
    rw [List.map_cons, List.nodup_cons] at hn
    have h' : (xs.map (·.1))[j]? = some k := by simpa using h
    have ne : x.1 ≠ k := fun e => hn.1 (e ▸ List.mem_of_getElem? h')
    have ih := outX_at hn.2 h'
    unfold outX at ih ⊢
    rw [List.filter_cons, if_pos (decide_eq_true ne), ih]; rfl
theorem paired_era {α β : Type} {F : α → β → Prop} : ∀ {l : List α} {m : List β} (j : Nat), Paired F l m → Paired F (l.eraseIdx j) (m.eraseIdx j)
  | _, _, _, .nil => .nil
  | _, _, 0, .cons _ t => t
  | _, _, j + 1, .cons r t => .cons r (paired_era j t)
section
variable {prog : Program} {w : World} {A : Around} {E : Value → Shared → Prop} {s : Shared} {d : Addr} {k : NestedKey} {u : Value} {xs : List XEn}
theorem dx_take {Q : Option DictEntry → Shared → Prop} {y : V} (hu : A.units + 8 < cLine) (hk : KyIs s.heap k u) (hm : DxAt w d xs s.heap) (hK : ∀ x ∈ xs, ∀ v, RelV x.2.1 v → KyIs s.heap x.1 v) (hn : (xs.map (·.1)).Nodup) (hy : valX xs k = some y)
    (h : ∀ e h', RelV y e.val → DxAt w d (outX xs k) h' → Heap.SameBut d s.heap h' → Q (some e) { s with heap := h', toks := s.toks + k.draws }) : wpAny (model prog w) A (Builtin.Dict.takeOut d u) Q E s := by
  obtain ⟨h1, h2, o, es, ep, ho, hc, hd, hp⟩ := hm
  have hsz : es.size = xs.length := by rw [← Array.length_toList]; exact (paired_len hp).symm
  unfold Builtin.Dict.takeOut
  refine wpAny_holding (wpAny_bind (ky_hash hu hk (wpAny_bind ?_)))
  refine ky_find (s := { s with toks := s.toks + k.draws }) hu hk ho hd (dx_kys (s := s) hp hK) hn (fun hno => ?_) (fun j hj => ?_)
  · rw [valX_no hno] at hy; cases hy
  · have hj0 := hj
    rw [List.getElem?_map] at hj
    obtain ⟨x, hx, e⟩ := Option.map_eq_some_iff.mp hj
    obtain ⟨en, he, r⟩ := paired_at' hp hx
    rw [valX_at hn hx e] at hy
    cases hy
    rw [Array.getElem?_toList] at he
    have hlt := (Array.getElem?_eq_some_iff.mp he).1
    refine wpAny_bind (wpAny_dictEntries (s := { s with toks := s.toks + k.draws }) ho hd ?_)
    rw [he]
    refine wpAny_bind (wpAny_updateDictKeys (hz := by omega) (s := { s with toks := s.toks + k.draws }) ho hd (wpAny_pure (h en _ r.2.2 ?_ (Heap.SameBut.update ..))))
    refine ⟨Nat.le_trans (List.length_filter_le ..) h1, h2, _, _, _, Heap.get?_update_self _ ho (Obj.isFreed_of_dict (Obj.data_mapDictKeys hd _)), hc.mapDictKeys _, Obj.data_mapDictKeys hd _, ?_⟩
    rw [outX_at hn hj0]
    have := paired_era j hp
    obtain ⟨l⟩ := es
    simpa using this
theorem DxOn.out {Q : Value → Shared → Prop} {y : V} (O : DxOn w A s d xs k u) (hy : valX xs k = some y) (h : ∀ h' r, RelV y r → DxAt w d (outX xs k) h' → Heap.SameBut d s.heap h' → Q r { s with heap := h', toks := s.toks + k.draws }) :
    wpAny (model prog w) A (call (.builtin "dict.pop") [.ref d, u]) Q E s := by
  refine call_meetsIn F.slot_dict_pop (dx_typeIs O.di) F.entry_dict_pop (F.args_dict_pop_2 _ u) (S := fun B R z => B = A ∧ z = s ∧ ∀ h' r, RelV y r → DxAt w d (outX xs k) h' → Heap.SameBut d s.heap h' → R (.ok (.ret r)) { s with heap := h', toks := s.toks + k.draws }) (.of_wp fun B R z hS => ?_) ⟨rfl, rfl, fun h' r a b c => h h' r a b c⟩
  obtain ⟨rfl, rfl, hq⟩ := hS
  have hu : B.in1.units + 8 < cLine := by have := O.rm; show B.units + 1 + 8 < cLine; omega
  unfold Builtin.«dict.pop»
  refine wpAny_bind ?_
  unfold Builtin.Dict.keyAndDefault
  refine wpAny_bind (wpAny_notOrdered_dict (dx_typeIs O.di) ?_)
  show wpAny _ _ (pure (d, u, none)) _ _ _
  refine wpAny_pure ?_
  dsimp only
  obtain ⟨h1, h2, o, es, ep, ho, hc, hd, hp⟩ := id O.di
  have ne : ¬ es.isEmpty = true := fun q => by
    have hz : xs.length = 0 := by rw [paired_len hp, Array.length_toList, Array.isEmpty_iff_size_eq_zero.mp q]
    rw [List.length_eq_zero_iff.mp hz] at hy
    cases hy
  refine wpAny_ite_split (fun _ => ?_) (fun _ => ?_)
  case' refine_1 => refine wpAny_bind (wpAny_pure ?_); rw [if_neg Bool.false_ne_true]
  case' refine_2 => refine wpAny_bind (wpAny_dictEntries ho hd (wpAny_bind (wpAny_pure ?_))); rw [if_neg ne]
  all_goals
    refine wpAny_bind (dx_take hu O.ky O.di O.ks O.nd hy fun e h' r1 r2 r3 => ?_)
    exact wpAny_bind (wpAny_letGo (wpAny_pure ⟨_, rfl, hq h' _ r1 r2 r3⟩))
end
/-! ### as data -/
section
variable {K : PySem.W.Frag} {H : Hp} {kvs : List (D × D)} {xs : List XEn}
open Classical in
theorem RepXs.out {k : D} (hk : Fine 8 k) : ∀ {kvs : List (D × D)} {xs : List XEn}, (∀ p ∈ kvs, Fine 8 p.1) → RepXs K H kvs xs → RepXs K H (outT kvs k) (outX xs (nk k))
  | [], _, _, h => by cases h; rfl
  | (j, e) :: kvs, _, hf, h => by
    obtain ⟨x', y', r, rfl, h2, h3, h4⟩ := h
    have ih := RepXs.out (kvs := kvs) hk (fun q hq => hf q (List.mem_cons_of_mem _ hq)) h4
    unfold outT outX at ih ⊢
    rw [List.filter_cons, List.filter_cons]
    by_cases e' : j = k
    · subst e'
      rw [if_neg (by simp), if_neg (by simp)]
      exact ih
    · have e2 : nk j ≠ nk k := fun z => e' (nk_inj (hf _ (List.mem_cons_self ..)) hk z)
      rw [if_pos (by simpa using e'), if_pos (by simpa using e2)]
      exact ⟨x', y', _, rfl, h2, h3, ih⟩
theorem KvX.out {k : D} (h : KvX kvs) : KvX (outT kvs k) :=
  ⟨fun p hp => h.fine p (List.mem_filter.mp hp).1, (List.filter_sublist.map _).nodup h.once⟩
open Classical in
theorem getT_out {k j : D} : getT (outT kvs k) j = if j = k then none else getT kvs j := by
  induction kvs with
  | nil => show none = _; split <;> rfl
  | cons p kvs ih =>
    unfold outT at ih ⊢
    rw [List.filter_cons]
    by_cases e : p.1 = k
    · rw [if_neg (by simpa using e), ih]
      by_cases ej : j = k
      · rw [if_pos ej, if_pos ej]
      · rw [if_neg ej, if_neg ej, getT_neg (fun z => ej (z.symm.trans e))]
    · rw [if_pos (by simpa using e)]
      by_cases epj : p.1 = j
      · rw [getT_pos epj, getT_pos epj, if_neg (fun z => e (epj.trans z))]
      · rw [getT_neg epj, getT_neg epj, ih]
end
section
variable {X : Cx} {cl : Cl} {p : Addr} {m : Mp} {k : K3}
/-- d.pop(k) where it stands -/
def fPopX (o : D) (ds : List D) (m : Mp) (k : K3) : Prop := ∃ q kvs y d, o = .ref q ∧ ds = [y] ∧ m q = some (.dD kvs) ∧ KvX kvs ∧ Fine 8 y ∧ getT kvs y = some d ∧ k d (mset m q (.dD (outT kvs y)))
def rPopX (K : PySem.W.Frag) (w : World) : V → List V → Hp → VK → Prop := fun x vs H Q => ∃ a kvs xs y v i, x = .ref a ∧ vs = [i] ∧ H a = some (dxH w a xs) ∧ RepXs K H kvs xs ∧ KvX kvs ∧ Fine 8 y ∧ Rep K H y i ∧ valX xs (nk y) = some v ∧ Q v (upd H a (dxH w a (outX xs (nk y))))
theorem mt_popX (hu : X.A.units + 64 + 2 < cLine) : MtR X "dict.pop" (rPopX X.K X.w) := by
  intro pins s σ H x vs v us Q J rx rv ⟨a, kvs, xs, y, v0, i, ex, ev, h1, h2, hk, hy, hr, hv, q⟩
  subst ex ev
  cases rx
  obtain ⟨u, rfl, ru⟩ := vals1 rv
  have O : DxOn X.w X.A s a xs (nk y) u := ⟨by omega, ⟨ky_rep J hy hr ru, nk_depth hy⟩, dx_ok.mp (J.hok a _ h1), xs_kys J hk.fine h2, by rw [h2.keys]; exact hk.nks⟩
  refine O.out hv fun h' r r1 b c => ⟨v0, _, ?_, r1, q⟩
  exact J.write (x := a) (e := a) (by rw [h1]; exact True.intro) (.inl rfl) (fun c' v hc z => (c.2 c' hc).trans z) (let ⟨_, _, o, _, _, ho, _⟩ := b; ⟨o, ho⟩) (dx_ok.mpr b)
theorem up_popX (hw : X.w = cl.w) : UpM X cl fPopX (rPopX X.K X.w) := fun H m o v ds vs Q r1 r2 hm ⟨q, kvs, y, d, e1, e2, h1, hk, hy, hd, h⟩ => by
  subst e1 e2
  have r' : v = .ref q := r1
  subst r'
  obtain ⟨u, rfl, ru⟩ := reps1 r2
  obtain ⟨xs, q1, q2⟩ := hm.1 q _ h1
  have q1' : H q = some (dxH X.w q xs) := hw ▸ q1
  rcases q2.val hy hk.fine with ⟨e, _⟩ | ⟨d', w, e, e2, e3⟩
  · rw [hd] at e; cases e
  · rw [hd] at e
    cases e
    have ex := ext_dX (u := dxH X.w q (outX xs (nk y))) q1'
    exact ⟨q, kvs, xs, y, w, u, rfl, rfl, q1', q2, hk, hy, ru, e2, h _ _ (e3.mono ex) (hm.put ex ⟨_, by rw [hw]; exact upd_same, (q2.out hy hk.fine).mono ex⟩) ex⟩
theorem mono_popX : MonoM fPopX := fun o ds m k k' hk ⟨q, kvs, y, d, e1, e2, h1, h2, h3, h4, h⟩ => ⟨q, kvs, y, d, e1, e2, h1, h2, h3, h4, hk _ _ h⟩
end
/-! a or b, as a value of any kind -/
section
variable {X : Cx} {cl : Cl} {W : WX} {a b : Expr} {A B : TE3} {rest : List Expr} {pos : Pos}
theorem pe_orW {ta tb : TE} (ha : PE X a ta) (hb : PE X (.BoolOp .Or (b :: rest) pos) tb) : PE X (.BoolOp .Or (a :: b :: rest) pos) (fun σ H Q => ta σ H fun x H' => ∃ c, TruV X.K x H' c ∧ if c = true then Q x H' else tb σ H' Q) := by
  refine ⟨fun pins s σ H Q I h => BoolOp_or (thn (ha.run pins s σ H _ I h) fun v s1 ⟨x, H1, I1, r1, c, ht, q1⟩ => ?_)⟩
  refine thn (tru_ok pins s1 σ H1 x v (fun c' H' => c' = c ∧ H' = H1) I1 r1 ⟨c, ht, rfl, rfl⟩) fun c' s2 ⟨H2, I2, e1, e2⟩ => ?_
  subst e1 e2
  cases c' with
  | false => exact hb.run pins s2 σ H2 Q I2 q1
  | true => exact ⟨x, H2, I2, r1, q1⟩
def eOrV (A B : TE3) : TE3 := fun s m k x => A s m (fun d m1 => ∃ c, TruD m1 d c ∧ if c = true then k d m1 else B s m1 k x) x
theorem q_orV (ha : QE X cl W a A) (hb : QE X cl W (.BoolOp .Or (b :: rest) pos) B) : QE X cl W (.BoolOp .Or (a :: b :: rest) pos) (eOrV A B) :=
  ⟨fun s m k k' x x' hk hx q => ha.mono _ _ _ _ _ _ (fun d m1 ⟨c, e, z⟩ => ⟨c, e, by
      cases c with
      | true => exact hk _ _ z
      | false => exact hb.mono _ _ _ _ _ _ hk hx z⟩) hx q,
   PE.imp (pe_orW ha.run hb.run) fun σ H Q ⟨s, m, hs, hm, q⟩ => ⟨s, m, hs, hm, ha.mono _ _ _ _ _ _ (fun d m1 ⟨c, e, z⟩ v H1 r hm1 e1 => ⟨c, e.up r hm1, by
    cases c with
    | false => exact ⟨s, m1, hs.mono e1, hm1, hb.mono _ _ _ _ _ _ (fun d m2 w => cE_ext e1 w) (fun _ _ w => cX_ext e1 w) z⟩
    | true => exact z _ H1 r hm1 e1⟩) (fun _ _ z => z) q⟩⟩
theorem x_orV {s : S3} {m : Mp} {k : K3} {x : X3} (h : A s m (fun d m1 => ∃ c, TruD m1 d c ∧ if c = true then k d m1 else B s m1 k x) x) : eOrV A B s m k x := h
end
/-! a method called on such a dict, with one thing -/
section
variable {X : Cx} {cl : Cl} {W : WX} {o e : Expr} {A : TE3} {R : TA3} {name : Str} {apos cpos : Pos} {id : String} {r : V → List V → Hp → VK → Prop} {f : D → List D → Mp → K3 → Prop}
/-- such a dict, as tracked -/
def DxV (w : World) (x : V) (H : Hp) : Prop := ∃ p xs, x = .ref p ∧ H p = some (dxH w p xs)
theorem pe_mtX {to : TE} {ta : TA} (slot : Slot "dict" name id) (hty : typeOf (.builtin id) = pure (.type "method_descriptor")) (hm : MtR X id r) (ho : PE X o to) (ha : PA X [e] ta)
    (hbase : attributeBase o name X.env (eval o X.env) = eval o X.env)
    (hfew : ((backTo cpos (starEach [e] X.env)).all (fun x => !x.1) && (backToKw cpos (keywordEach [] X.env)).all (fun x => x.1.isSome)
      && decide ([e].length + ([] : List Keyword).length + (if ([] : List Keyword).isEmpty then 0 else 1) < 30)) = true)
    (hline : (apos.endLine == cpos.line) = true) (hs : starEach [e] X.env = (false, eval e X.env) :: starEach [] X.env) (hplain : (backTo cpos (starEach [] X.env)).any (·.1) = false) :
    PE X (.Call (.Attribute o name apos) [e] [] cpos) (fun σ H Q => to σ H fun x H1 => DxV X.w x H1 ∧ ta σ H1 fun vs H2 => r x vs H2 Q) :=
  ⟨fun pins s σ H Q J h => wpAny_Call_method_late hbase hfew hline rfl (thn (ho.run pins s σ H _ J h) (by
    rintro v s1 ⟨x, H1, J1, r1, ⟨p, xs, ex, hp⟩, q⟩
    subst ex
    cases (show v = Value.ref p from r1)
    have hD := dx_ok.mp (J1.hok p _ hp)
    have args := ha.run cpos pins s1 σ H1 _ J1 q
    rw [hs] at args
    refine ⟨"dict", id, PySem.F.plainAttrs_dict, slot, hty, dx_typeIs hD, fun a e => ?_, ?_⟩
    · cases e
      obtain ⟨_, _, ob, _, _, h1, h2, _⟩ := hD
      exact ⟨ob, h1, h2.2.1⟩
    · rw [hs]
      have hno : ((false, eval e X.env) :: backTo cpos (starEach [] X.env)).any (fun y => y.1) = false := by rw [List.any_cons, hplain]; rfl
      exact Calls.callWith_builtin hno (Calls.evalArgs_plain (thn args fun us s2 ⟨vs, H2, J2, r2, q2⟩ => hm pins s2 σ H2 _ vs _ us Q J2 r1 r2 q2))))⟩
def eMtX (f : D → List D → Mp → K3 → Prop) (O : TE3) (R : TA3) : TE3 := fun s m k x => O s m (fun o m1 => (∃ q kvs, o = .ref q ∧ m1 q = some (.dD kvs)) ∧ R s m1 (fun ds m2 => f o ds m2 k) x) x
theorem x_mtX {O : TE3} {s : S3} {m : Mp} {k : K3} {x : X3} (h : O s m (fun o m1 => (∃ q kvs, o = .ref q ∧ m1 q = some (.dD kvs)) ∧ R s m1 (fun ds m2 => f o ds m2 k) x) x) : eMtX f O R s m k x := h
theorem q_mtX (hw : X.w = cl.w) (slot : Slot "dict" name id) (hty : typeOf (.builtin id) = pure (.type "method_descriptor")) (hm : MtR X id r) (u : UpM X cl f r) (mf : MonoM f) (ho : QE X cl W o A) (ha : QA X cl W [e] R)
    (hbase : attributeBase o name X.env (eval o X.env) = eval o X.env)
    (hfew : ((backTo cpos (starEach [e] X.env)).all (fun x => !x.1) && (backToKw cpos (keywordEach [] X.env)).all (fun x => x.1.isSome)
      && decide ([e].length + ([] : List Keyword).length + (if ([] : List Keyword).isEmpty then 0 else 1) < 30)) = true)
    (hline : (apos.endLine == cpos.line) = true) (hs : starEach [e] X.env = (false, eval e X.env) :: starEach [] X.env) (hplain : (backTo cpos (starEach [] X.env)).any (·.1) = false) :
    QE X cl W (.Call (.Attribute o name apos) [e] [] cpos) (eMtX f A R) := by
  refine ⟨fun s m k k' x x' hk hx q => ho.mono _ _ _ _ _ _ (fun d m1 ⟨z, y⟩ => ⟨z, ha.mono _ _ _ _ _ _ (fun ds m2 w => mf _ _ _ _ _ hk w) hx y⟩) hx q, ?_⟩
  refine PE.imp (pe_mtX slot hty hm ho.run ha.run hbase hfew hline hs hplain) fun σ H Q ⟨s, m, hs, hm, q⟩ => ⟨s, m, hs, hm, ho.mono _ _ _ _ _ _ (fun d m1 ⟨⟨p, kvs, ed, hd⟩, y⟩ v H1 r1 hm1 e1 => ?_) (fun _ _ z => z) q⟩
  subst ed
  have r1' : v = .ref p := r1
  subst r1'
  obtain ⟨xs, g1, g2⟩ := hm1.1 p _ hd
  refine ⟨⟨p, xs, rfl, hw ▸ g1⟩, s, m1, hs.mono e1, hm1, ha.mono _ _ _ _ _ _ (fun ds m2 w vs H2 r2 hm2 e2 => ?_) (fun _ _ z => cX_ext e1 z) y⟩
  exact u H2 m2 (.ref p) (.ref p) ds vs Q (show Rep X.K H2 (.ref p) (.ref p) from rfl) r2 hm2 (mf _ _ _ _ _ (fun _ _ y => cE_ext (e1.trans e2) y) w)
end
end PV

/-! tuple(range(n)), n a literal. -/
namespace PV
open PySem L2 PyProof.Rows
section
variable {X : Cx} {cl : Cl} {W : WX} {p p2 pos pos2 pos3 : Pos}
theorem rng_ints {n : Int} : rngD 0 1 n.toNat = ((List.range n.toNat).map fun (i : Nat) => (i : Int)).map D.int := by
  unfold rngD
  rw [List.map_map]
  refine List.map_congr_left fun i _ => ?_
  show D.int (0 + (i : Int) * 1) = D.int (i : Int)
  rw [Int.mul_one, Int.zero_add]
theorem rg_ints {n : Int} : rgV 0 n = ((List.range n.toNat).map fun (i : Nat) => (i : Int)).map V.int := by
  unfold rgV
  rw [List.map_map, Int.sub_zero]
  refine List.map_congr_left fun i _ => ?_
  show V.int (0 + (i : Int)) = V.int (i : Int)
  rw [Int.zero_add]
theorem q_tupR {n : Int} {j} (h0 : (0 ≤ n ∧ n ≤ 16777216)) (hc : X.calm = true) (hg : Gl X "tuple") (hm : X.mg "tuple" = none) (hg2 : Gl X "range") (hm2 : X.mg "range" = none)
    (na : starEach [.Constant (.int n) j pos3] X.env = (false, eval (.Constant (.int n) j pos3) X.env) :: starEach [] X.env := by rfl)
    (nb : starEach [.Call (.Name "range" p2) [.Constant (.int n) j pos3] [] pos2] X.env = (false, eval (.Call (.Name "range" p2) [.Constant (.int n) j pos3] [] pos2) X.env) :: starEach [] X.env := by rfl) :
    QE X cl W (.Call (.Name "tuple" p) [.Call (.Name "range" p2) [.Constant (.int n) j pos3] [] pos2] [] pos) (eLit (.tup (rngD 0 1 n.toNat))) :=
  ⟨mono_lit, PE.imp (pe_tupRg hc hg hm (prg_1 hg2 hm2 pe_int na) nb) fun σ H Q ⟨s, m, hs, hm, h1⟩ =>
    ⟨n, rfl, RgOk.of_le (by decide) h0.2 (by decide) h0.1, fun q hq => h1 (.ref q) _ (rep_tup hq (by rw [rng_ints, rg_ints]; exact Reps.ofInts)) (hm.hid hq) (Ext.new hq)⟩⟩
end
end PV

/-! str.split of one text, str.count. -/
namespace PV
open PySem L2 PyProof.Rows
section
variable {X : Cx} {cl : Cl}
def fSplit (o : D) (ds : List D) (m : Mp) (k : K3) : Prop := ∃ z y : Str, o = .str z ∧ ds = [.str y] ∧ (y.length == 0) = false ∧ z.length + 2 ≤ sizeLine ∧ ∀ p, m p = none → k (.ref p) (mset m p (.lst ((Txt.split z y).map D.str)))
theorem reps_strs {K : PySem.W.Frag} {H : Hp} : ∀ {ys : List Str}, Reps K H (ys.map D.str) (ys.map V.str)
  | [] => rfl
  | y :: ys => ⟨_, _, rfl, rfl, reps_strs⟩
theorem up_split : UpM X cl fSplit (fun x xs H Q => ∃ a b, x = .str a ∧ xs = [.str b] ∧ (b.length == 0) = false ∧ a.length + 2 ≤ sizeLine ∧ rNewStrs (Txt.split a b) H Q) := fun H m o v ds vs Q r1 r2 hm ⟨z, y, e1, e2, h1, h2, h⟩ => by
  subst e1 e2
  have r' : v = .str z := r1
  subst r'
  obtain ⟨w, rfl, rw⟩ := reps1 r2
  cases rw
  exact ⟨z, y, rfl, rfl, h1, h2, fun p hp => h p (hm.free hp) _ _ rfl (new_lst hm hp reps_strs) (Ext.new hp)⟩
theorem mono_split : MonoM fSplit := fun o ds m k k' hk ⟨z, y, e1, e2, h1, h2, h⟩ => ⟨z, y, e1, e2, h1, h2, fun p hp => hk _ _ (h p hp)⟩
def fCntS (o : D) (ds : List D) (m : Mp) (k : K3) : Prop := ∃ z y : Str, o = .str z ∧ ds = [.str y] ∧ k (.int (Txt.count z y)) m
theorem up_cntS : UpM X cl fCntS (fun x xs H Q => ∃ a b, x = .str a ∧ xs = [.str b] ∧ Q (.int (Txt.count a b)) H) := fun H m o v ds vs Q r1 r2 hm ⟨z, y, e1, e2, h⟩ => by
  subst e1 e2
  have r' : v = .str z := r1
  subst r'
  obtain ⟨w, rfl, rw⟩ := reps1 r2
  cases rw
  exact ⟨z, y, rfl, rfl, h _ _ rfl hm (Ext.refl H)⟩
theorem mono_cntS : MonoM fCntS := fun o ds m k k' hk ⟨z, y, e1, e2, h⟩ => ⟨z, y, e1, e2, hk _ _ h⟩
/-! texts: > -/
def fGtS : D → D → Mp → K3 → Prop := fun u v m k => ∃ i j : Str, u = .str i ∧ v = .str j ∧ k (.bl (decide (j.cps.toList < i.cps.toList))) m
theorem mono_gtS : MonoF fGtS := fun u v m k k' hk ⟨i, j, e1, e2, h⟩ => ⟨i, j, e1, e2, hk _ _ h⟩
theorem op_gtS : OpR X (compareOp .Gt) (fun x y H Q => ∃ i j, x = .str i ∧ y = .str j ∧ Q (.bl (decide (j.cps.toList < i.cps.toList))) H) := by
  intro pins s σ H x y v u Q I rx ry ⟨i, j, e1, e2, q⟩
  subst e1 e2
  obtain ⟨t, rfl⟩ := rx
  obtain ⟨t', rfl⟩ := ry
  exact PySem.P.gt_str ⟨.bl _, H, I, rfl, q⟩
theorem up_gtS (H : Hp) (m : Mp) (u v : D) (x y : V) (Q : VK) (rx : Rep X.K H u x) (ry : Rep X.K H v y) (hm : Ab X.K cl H m) (h : fGtS u v m (cE X.K cl H Q)) : ∃ i j, x = .str i ∧ y = .str j ∧ Q (.bl (decide (j.cps.toList < i.cps.toList))) H := by
  obtain ⟨i, j, e1, e2, h⟩ := h
  subst e1 e2
  exact ⟨i, j, rx, ry, h _ _ rfl hm (Ext.refl H)⟩
theorem q_gtS {W : WX} {a b : Expr} {A B : TE3} {pos : Pos} (ha : QE X cl W a A) (hb : QE X cl W b B) : QE X cl W (.Compare a [.Gt] [b] pos) (eBin fGtS A B) := q_cmp op_gtS up_gtS mono_gtS ha hb (nomark _)
theorem t_gtS {W : WX} {a b : Expr} {A B : TE3} {pos : Pos} (ha : QE X cl W a A) (hb : QE X cl W b B) : QT X cl W (.Compare a [.Gt] [b] pos) (tBv (eBin fGtS A B)) := t_cmp op_gtS up_gtS mono_gtS ha hb (nomark _)
/-! str(..) of a number or a text -/
def fStrX : List D → Mp → K3 → Prop := fun ds m k => (∃ i : Int, ds = [.int i] ∧ i.natAbs.log2 < 1920 ∧ k (.str (toString i)) m) ∨ ∃ z : Str, ds = [.str z] ∧ k (.str z) m
theorem q_strX {W : WX} {a : Expr} {rest : List Expr} {R : TA3} {p pos : Pos} (hg : Gl X "str") (hm : X.mg "str" = none) (ha : QA X cl W (a :: rest) R) (he : starEach (a :: rest) X.env = (false, eval a X.env) :: starEach rest X.env) (hpl : (backTo pos (starEach rest X.env)).any (·.1) = false) :
    QE X cl W (.Call (.Name "str" p) (a :: rest) [] pos) (eCB fStrX R) :=
  q_cty (call_str_int.or SkE.call_str_str) (fun H m ds vs Q r hm h => by
    rcases h with ⟨i, e, h1, h2⟩ | ⟨i, e, h2⟩ <;> subst e <;> obtain ⟨v, rfl, q⟩ := reps1 r <;> cases q
    · exact .inl ⟨i, rfl, h1, h2 _ _ rfl hm (Ext.refl H)⟩
    · exact .inr ⟨i, rfl, h2 _ _ rfl hm (Ext.refl H)⟩) (fun ds m k k' hk h => by
    rcases h with ⟨z, e, h1, h2⟩ | ⟨z, e, h2⟩
    · exact .inl ⟨z, e, h1, hk _ _ h2⟩
    · exact .inr ⟨z, e, hk _ _ h2⟩) (by decide +kernel) (by decide) (by decide) hg hm ha he hpl
end
theorem xf_strX {n : Int} {m : Mp} {k : K3} (h0 : n.natAbs.log2 < 1920) (h : k (.str (toString n)) m) : fStrX [.int n] m k := .inl ⟨n, rfl, h0, h⟩
theorem xf_strXs {z : Str} {m : Mp} {k : K3} (h : k (.str z) m) : fStrX [.str z] m k := .inr ⟨z, rfl, h⟩
theorem xf_gtS {i j : Str} {m : Mp} {k : K3} (h : k (.bl (decide (j.cps.toList < i.cps.toList))) m) : fGtS (.str i) (.str j) m k := ⟨i, j, rfl, rfl, h⟩
theorem xf_split {z : Str} {c : Nat} {m : Mp} {k : K3} (h1 : z.cps.toList.length ≤ 100000) (h : ∀ p, m p = none → k (.ref p) (mset m p (.lst ((Txt.split z ⟨#[c]⟩).map D.str)))) : fSplit (.str z) [.str ⟨#[c]⟩] m k :=
  ⟨z, _, rfl, rfl, rfl, by rw [str_len]; exact Nat.le_trans (show z.cps.toList.length + 2 ≤ 100002 by omega) (by decide), h⟩
theorem xf_cntS {z y : Str} {m : Mp} {k : K3} (h : k (.int (Txt.count z y)) m) : fCntS (.str z) [.str y] m k := ⟨z, y, rfl, rfl, h⟩
end PV

/-! Tuples of the module; all(..), any(..) of a list of truths. -/
namespace PV
open PySem L2 PyProof.Rows
section
variable {X : Cx} {cl : Cl} {W : WX} {pos : Pos}
/-- a tuple that the module keeps -/
def TupK (K : PySem.W.Frag) (a : Addr) (vs : List V) : Prop := ∃ (o : Obj) (its : Array Value) (n : Nat), K.lookup a = some o ∧ o.cls = .type "tuple" ∧ o.data = .seq its n ∧ its.size ≤ sizeLine ∧ Vals vs its.toList
theorem q_conT {x : Str} {l : List D} {vs : List V} (hg : Gl X x) (hm : ∃ a, X.mg x = some (.ref a) ∧ TupK X.K a vs) (q : ∀ H, Reps X.K H l vs) (hd : (x == ("__debug__" : Str)) = false) : QE X cl W (.Name x pos) (eLit (.tup l)) := by
  obtain ⟨a, h1, h2⟩ := hm
  exact q_glob (v := .ref a) hg h1 rfl (fun H => ⟨a, vs, rfl, .inr h2, q H⟩) hd
/-! ### all, any -/
theorem truths {bs : List Bool} {us : List Value} (r : Vals (bs.map V.bl) us) {i : Nat} {u : Value} (h : us[i]? = some u) : u = .bool (bs.getD i false) := by
  induction bs generalizing us i with
  | nil => cases r; simp at h
  | cons b bs ih =>
    cases r with
    | cons q t =>
      cases i with
      | zero =>
        rw [List.getElem?_cons_zero] at h
        rw [← Option.some.inj h]
        exact q
      | succ i => simpa using ih t (by simpa using h)
theorem truth_of {prog : Program} {w : World} {A : Around} {bs : List Bool} {us : List Value} (r : Vals (bs.map V.bl) us) : TruthOf prog w A (fun i v => us.toArray[i]? = some v) (fun i => bs.getD i false) := fun i v s Q E h q => by
  have h' : us[i]? = some v := by simpa using h
  rw [truths r h']
  exact wpAny_truthy_bool q
theorem range_all {bs : List Bool} : (List.range bs.length).all (fun i => bs.getD i false) = bs.all id := by
  induction bs with
  | nil => rfl
  | cons b bs ih =>
    rw [List.length_cons, List.range_succ_eq_map, List.all_cons, List.all_map, List.all_cons]
    exact congrArg (b && ·) ih
theorem range_any {bs : List Bool} : (List.range bs.length).any (fun i => bs.getD i false) = bs.any id := by
  induction bs with
  | nil => rfl
  | cons b bs ih =>
    rw [List.length_cons, List.range_succ_eq_map, List.any_cons, List.any_map, List.any_cons]
    exact congrArg (b || ·) ih
theorem cr_all (hc : X.calm = true) : CallR X (.builtin "all") (fun xs H Q => ∃ q, ∃ bs : List Bool, xs = [.ref q] ∧ SqL X.K H q (bs.map V.bl) ∧ Q (.bl (bs.all id)) H) := by
  intro pins s σ H xs us Q I r ⟨q, bs, e, hq, hQ⟩
  subst e
  obtain ⟨u, rfl, r1⟩ := vals1 r
  cases r1
  obtain ⟨its, rv, pl, hz⟩ := I.list hq
  have hl := pl.isList
  have hn : its.length = bs.length := by rw [← rv.length, List.length_map]
  have lt := let ⟨_, ho, _⟩ := hl; Heap.lt_size ho
  refine call_all_walk (wpAny_pyIter_list hl ?_)
  refine ⟨s.heap.objs.size, _, _, _, _, _, fun i => bs.getD i false, rfl, Walks.list (prog := X.prog) (w := X.w) (A := X.A.in1) (I.ok.hd hc) s.heap.objs.size q (Nat.ne_of_lt lt) its.toArray, ⟨⟨_, Heap.get?_push_size _ rfl, rfl, rfl⟩, hl.at fun o e => Heap.get?_push_of_some _ e⟩, truth_of rv, fun h' tk hk => ?_⟩
  rw [show its.toArray.size = bs.length by rw [List.size_toArray, hn], range_all]
  exact ⟨.bl _, H, I.kept fun b o e => hk b o (by simpa using Nat.ne_of_lt (Heap.lt_size e)) (Heap.get?_push_of_some _ e), rfl, hQ⟩
theorem cr_any (hc : X.calm = true) : CallR X (.builtin "any") (fun xs H Q => ∃ q, ∃ bs : List Bool, xs = [.ref q] ∧ SqL X.K H q (bs.map V.bl) ∧ Q (.bl (bs.any id)) H) := by
  intro pins s σ H xs us Q I r ⟨q, bs, e, hq, hQ⟩
  subst e
  obtain ⟨u, rfl, r1⟩ := vals1 r
  cases r1
  obtain ⟨its, rv, pl, hz⟩ := I.list hq
  have hl := pl.isList
  have hn : its.length = bs.length := by rw [← rv.length, List.length_map]
  have lt := let ⟨_, ho, _⟩ := hl; Heap.lt_size ho
  refine call_any_walk (wpAny_pyIter_list hl ?_)
  refine ⟨s.heap.objs.size, _, _, _, _, _, fun i => bs.getD i false, rfl, Walks.list (prog := X.prog) (w := X.w) (A := X.A.in1) (I.ok.hd hc) s.heap.objs.size q (Nat.ne_of_lt lt) its.toArray, ⟨⟨_, Heap.get?_push_size _ rfl, rfl, rfl⟩, hl.at fun o e => Heap.get?_push_of_some _ e⟩, truth_of rv, fun h' tk hk => ?_⟩
  rw [show its.toArray.size = bs.length by rw [List.size_toArray, hn], range_any]
  exact ⟨.bl _, H, I.kept fun b o e => hk b o (by simpa using Nat.ne_of_lt (Heap.lt_size e)) (Heap.get?_push_of_some _ e), rfl, hQ⟩
theorem reps_bls {K : PySem.W.Frag} {H : Hp} : ∀ {bs : List Bool} {vs : List V}, Reps K H (bs.map D.bl) vs → vs = bs.map V.bl
  | [], vs, h => h
  | b :: bs, vs, h => by
    obtain ⟨v, ws, rfl, h1, h2⟩ := h
    have h1' : v = .bl b := h1
    rw [h1', reps_bls h2]; rfl
def fAll : List D → Mp → K3 → Prop := fun ds m k => ∃ q, ∃ bs : List Bool, ds = [.ref q] ∧ RL m q (bs.map D.bl) ∧ k (.bl (bs.all id)) m
def fAny : List D → Mp → K3 → Prop := fun ds m k => ∃ q, ∃ bs : List Bool, ds = [.ref q] ∧ RL m q (bs.map D.bl) ∧ k (.bl (bs.any id)) m
theorem q_all {a : Expr} {rest : List Expr} {R : TA3} {p : Pos} (hc : X.calm = true) (hg : Gl X "all") (hm : X.mg "all" = none) (ha : QA X cl W (a :: rest) R) (he : starEach (a :: rest) X.env = (false, eval a X.env) :: starEach rest X.env) (hpl : (backTo pos (starEach rest X.env)).any (·.1) = false) :
    QE X cl W (.Call (.Name "all" p) (a :: rest) [] pos) (eCB fAll R) :=
  q_cb (cr_all hc) (fun H m ds vs Q r hm ⟨i, bs, e, h1, h2⟩ => by
    subst e
    obtain ⟨v, rfl, q⟩ := reps1 r
    cases q
    obtain ⟨ws, q1, q2⟩ := hm.rl h1
    have e := reps_bls q2
    subst e
    exact ⟨i, bs, rfl, q1, h2 _ _ rfl hm (Ext.refl H)⟩) (fun ds m k k' hk ⟨z, j, e, h1, h2⟩ => ⟨z, j, e, h1, hk _ _ h2⟩) (by decide +kernel) (by decide) (by decide) hg hm ha he hpl
theorem q_any {a : Expr} {rest : List Expr} {R : TA3} {p : Pos} (hc : X.calm = true) (hg : Gl X "any") (hm : X.mg "any" = none) (ha : QA X cl W (a :: rest) R) (he : starEach (a :: rest) X.env = (false, eval a X.env) :: starEach rest X.env) (hpl : (backTo pos (starEach rest X.env)).any (·.1) = false) :
    QE X cl W (.Call (.Name "any" p) (a :: rest) [] pos) (eCB fAny R) :=
  q_cb (cr_any hc) (fun H m ds vs Q r hm ⟨i, bs, e, h1, h2⟩ => by
    subst e
    obtain ⟨v, rfl, q⟩ := reps1 r
    cases q
    obtain ⟨ws, q1, q2⟩ := hm.rl h1
    have e := reps_bls q2
    subst e
    exact ⟨i, bs, rfl, q1, h2 _ _ rfl hm (Ext.refl H)⟩) (fun ds m k k' hk ⟨z, j, e, h1, h2⟩ => ⟨z, j, e, h1, hk _ _ h2⟩) (by decide +kernel) (by decide) (by decide) hg hm ha he hpl
end
theorem xf_all {q : Addr} {bs : List Bool} {m : Mp} {k : K3} (h1 : RL m q (bs.map D.bl)) (h : k (.bl (bs.all id)) m) : fAll [.ref q] m k := ⟨q, bs, rfl, h1, h⟩
theorem xf_any {q : Addr} {bs : List Bool} {m : Mp} {k : K3} (h1 : RL m q (bs.map D.bl)) (h : k (.bl (bs.any id)) m) : fAny [.ref q] m k := ⟨q, bs, rfl, h1, h⟩
end PV

/-! list.extend by a list or by a tuple. -/
namespace PV
open PySem L2 PyProof.Rows
theorem ext_meets {l b : Addr} {xs ys : Array Value} {n n2 : Nat} {dx : Option Addr} {sl : Array (Option Value)} (h1 : xs.size + ys.size ≤ sizeLine) :
    PySem.Meets (Builtin.«list.extend» ⟨[.ref l, .ref b], []⟩) (fun _ R s => s.heap.get? b = some ⟨.type "tuple", dx, .seq ys n2, sl⟩ ∧ s.heap.get? l = some { cls := .type "list", data := .seq xs n } ∧ R (.ok (.ret .none)) { s with heap := s.heap.update l (Obj.mapSeq (· ++ ys)), toks := s.toks }) :=
  .of_wp fun prog w A R s ⟨hb, hl, h⟩ => by
    cases s
    have e1 := AutoSeq1.sub_tuple_tuple
    have e2 := AutoSeq1.sub_list_list
    have e3 := AutoSeq1.sub_tuple_list
    have e4 := AutoSeq1.sub_list_tuple
    have room : ¬ (!xs.isEmpty && Builtin.List.listTooLong (xs.size + ys.size)) = true := by
      rw [notLongL h1, Bool.and_false]
      exact Bool.false_ne_true
    have fits : (xs ++ ys).size ≤ sizeLine + 1 := by rw [Array.size_append]; omega
    have fits0 : xs.size ≤ sizeLine := by omega
    wp_walk using AutoSeq1.wpAny_loadPart' hb, AutoSeq1.wpAny_loadPart' hl, (wpAny_updateSeq hl rfl (hz := fits0) (_hz' := fits))
    exact ⟨_, rfl, h⟩
section
variable {X : Cx} {cl : Cl} {W : WX} {pos : Pos}
def rExtX : V → List V → Hp → VK → Prop := fun x vs H Q => rExtend x vs H Q ∨ ∃ l b xs zs, x = .ref l ∧ vs = [.ref b] ∧ H l = some (.lst xs) ∧ SqT X.K H b zs ∧ xs.length + zs.length ≤ sizeLine ∧ Q .non (upd H l (.lst (xs ++ zs)))
theorem mt_extX : MtM X "list.extend" (rExtX (X := X)) := by
  intro pins s σ H x vs v us Q I rx rv h
  rcases h with h | ⟨l, b, xs, zs, rfl, rfl, hH, hB, hz, q⟩
  · exact mt_extend pins s σ H x vs v us Q I rx rv h
  obtain ⟨u, rfl, ru⟩ := rv.one
  cases rx
  cases ru
  obtain ⟨z, its, n, r, hl, e⟩ := I.lstM hH
  obtain ⟨its2, r2, ⟨⟨c, dx, dt, sl⟩, e2, c2, n2, d2⟩, _⟩ := I.tuple hB
  have hl2 := r2.length
  cases (show c = _ from c2)
  cases (show dt = _ from d2)
  refine call_meets F.slot_list_extend ⟨_, e, rfl⟩ F.entry_list_extend (F.args_list_extend_2 _ _) (ext_meets (ys := its2.toArray) (by rw [List.size_toArray, List.size_toArray]; omega)) ⟨e2, e, ?_⟩
  exact ⟨.non, _, I.lset (its' := its ++ its2) hH e (by simp) (r.append r2) (by rw [List.length_append]; exact hz), rfl, q⟩
def fExtX (o : D) (ds : List D) (m : Mp) (k : K3) : Prop := fExtend o ds m k ∨ ∃ q l r, o = .ref q ∧ ds = [.tup r] ∧ m q = some (.lst l) ∧ l.length + r.length ≤ sizeLine ∧ k .non (mset m q (.lst (l ++ r)))
theorem up_extX : UpM X cl fExtX (rExtX (X := X)) := fun H m o v ds vs Q r1 r2 hm h => by
  rcases h with h | ⟨q, l, r, e1, e2, h1, h3, h4⟩
  · exact .inl (up_extend H m o v ds vs Q r1 r2 hm h)
  subst e1 e2
  have r' : v = .ref q := r1
  subst r'
  obtain ⟨w, rfl, b, zs, rfl, q3, q4⟩ := reps1 r2
  obtain ⟨us, q1, q2⟩ := hm.1 q _ h1
  exact .inr ⟨q, b, us, zs, rfl, rfl, q1, q3, by rw [← q2.length, ← q4.length]; exact h3, h4 _ _ rfl (put_lst hm q1 (q2.append q4)) (ext_lst q1)⟩
theorem mono_extX : MonoM fExtX := fun o ds m k k' hk h => h.elim (fun h => .inl (mono_extend o ds m k k' hk h)) fun ⟨q, l, r, e1, e2, h1, h3, h4⟩ => .inr ⟨q, l, r, e1, e2, h1, h3, hk _ _ h4⟩
end
theorem xf_extXL {p q : Addr} {l r : List D} {m : Mp} {k : K3} (h1 : m p = some (.lst l)) (h2 : m q = some (.lst r)) (h0 : l.length + r.length ≤ 100000) (h : k .non (mset m p (.lst (l ++ r)))) : fExtX (.ref p) [.ref q] m k := .inl (xf_ext h1 h2 h0 h)
theorem xf_extXT {p : Addr} {l r : List D} {m : Mp} {k : K3} (h1 : m p = some (.lst l)) (h0 : l.length + r.length ≤ 100000) (h : k .non (mset m p (.lst (l ++ r)))) : fExtX (.ref p) [.tup r] m k := .inr ⟨p, l, r, rfl, rfl, h1, Nat.le_trans h0 (by decide), h⟩
/-- a text in a row of texts -/
theorem any_str {z : Str} : ∀ {ws : List Str}, ((ws.map PyData.str).any fun y => PyData.eqv y (.str z)) = decide (z ∈ ws)
  | [] => by simp
  | a :: ws => by
    rw [List.map_cons, List.any_cons, any_str, eqv_str]
    by_cases h : a = z
    · subst h; simp
    · have h' : ¬ z = a := fun e => h e.symm
      simp [h, h']
theorem dps_str {m : Mp} : ∀ {ws : List Str}, DPs m (ws.map D.str) (ws.map PyData.str)
  | [] => .nil
  | a :: ws => .cons (.str _) dps_str
theorem xf_inTS {z : Str} {ws : List Str} {m : Mp} {k : K3} (h : k (.bl (decide (z ∈ ws))) m) : fIn false (.str z) (.tup (ws.map D.str)) m k :=
  .inl ⟨.str z, _, _, .str _, .inr rfl, dps_str, (by simp [PyData.depth]), by rw [any_str]; exact h⟩
theorem xf_ninTS {z : Str} {ws : List Str} {m : Mp} {k : K3} (h : k (.bl (!decide (z ∈ ws))) m) : fIn true (.str z) (.tup (ws.map D.str)) m k :=
  .inl ⟨.str z, _, _, .str _, .inr rfl, dps_str, (by simp [PyData.depth]), by rw [any_str]; exact h⟩
theorem xf_ninLS {z : Str} {p : Addr} {ws : List Str} {m : Mp} {k : K3} (h1 : RL m p (ws.map D.str)) (h : k (.bl (!decide (z ∈ ws))) m) : fIn true (.str z) (.ref p) m k :=
  .inl ⟨.str z, _, _, .str _, .inl ⟨p, rfl, h1⟩, dps_str, (by simp [PyData.depth]), by rw [any_str]; exact h⟩
end PV

/-! enumerate(..) of a tuple. -/
namespace PV
open PySem L2 PyProof.Rows
abbrev newIt (t : Addr) : Obj := { cls := .type "tuple_iterator", data := .fields #[.ref t, .int 0 0] }
abbrev newEn (it : Addr) : Obj := { cls := .type "enumerate", data := .fields #[.none, .bool false, .ref it, rawInt 0, .none, .none] }
theorem enT_meets {t : Addr} {its : Array Value} : PySem.Meets (Builtin.«enumerate.__new__» ⟨[.type "enumerate", .ref t], []⟩) (fun _ R s => s.heap.IsTuple t its ∧
    R (.ok (.ret (.ref (s.heap.push (newIt t)).objs.size))) { s with heap := (s.heap.push (newIt t)).push (newEn s.heap.objs.size) }) :=
  .of_wp fun prog w A R s ⟨hT, h⟩ => by
    obtain ⟨hp, g, dw, tk, os⟩ := s
    obtain ⟨⟨c, dx, da, sl⟩, e1, e2, n, e3⟩ := id hT
    cases (show c = _ from e2)
    cases (show da = _ from e3)
    replace e1 : hp.get? t = _ := e1
    have e4 := sub_enumerate
    wp_walk using AutoSeq1.wpAny_loadPart' e1
    refine wpAny_stack_any fun st => wpAny_pure ?_
    split
    · rename_i c _ _ _ _ _
      cases (c == Value.type "enumerate") <;> (wp_walk using AutoSeq1.wpAny_loadPart' e1, wpAny_pyIter_tuple hT; exact ⟨_, rfl, h⟩)
    · wp_walk using AutoSeq1.wpAny_loadPart' e1, wpAny_pyIter_tuple hT
      exact ⟨_, rfl, h⟩
/-- the walk over pairs stands at i -/
def EnAt (t e it : Addr) (i : Nat) (h : Heap) : Prop := (∃ old, IsEnum h e it (i : Int) old) ∧ h.IsTupleIter it t i ∧ e ≠ it
theorem EnAt.e {t e it : Addr} {i : Nat} {h h' : Heap} (x : EnAt t e it i h) (k1 : ∀ o, h.get? e = some o → h'.get? e = some o) (k2 : ∀ o, h.get? it = some o → h'.get? it = some o) : EnAt t e it i h' := by
  obtain ⟨⟨old, a⟩, ⟨o, b1, b2⟩, c⟩ := x
  exact ⟨⟨old, k1 _ a⟩, ⟨o, k2 o b1, b2⟩, c⟩
theorem call_enT {prog : Program} {w : World} {A : Around} {E : Value → Shared → Prop} {s : Shared} {t : Addr} {its : Array Value} {Q : Value → Shared → Prop} (hT : s.heap.IsTuple t its)
    (h : ∀ h', EnAt t (s.heap.objs.size + 1) s.heap.objs.size 0 h' → (∀ b o, s.heap.get? b = some o → h'.get? b = some o) → Q (.ref (s.heap.objs.size + 1)) { s with heap := h' }) : wpAny (model prog w) A (call (.type "enumerate") [.ref t]) Q E s := by
  have z1 : (s.heap.push (newIt t)).objs.size = s.heap.objs.size + 1 := Heap.size_push ..
  have a1 : ((s.heap.push (newIt t)).push (newEn s.heap.objs.size)).get? (s.heap.objs.size + 1) = some (newEn s.heap.objs.size) := by
    have := Heap.get?_push_size (s.heap.push (newIt t)) (o := newEn s.heap.objs.size) rfl
    rwa [z1] at this
  have a2 : ((s.heap.push (newIt t)).push (newEn s.heap.objs.size)).get? s.heap.objs.size = some (newIt t) := Heap.get?_push_of_some _ (Heap.get?_push_size _ rfl)
  refine callType_new F.called_enumerate (by decide) (F.typeCall_enumerate_1 _) (F.newCall_enumerate_1 _) (fun obj => F.args_object_init_2 obj _) F.entry_enumerate_new enT_meets ⟨hT, ?_⟩
  show _ ∧ _
  rw [z1]
  exact ⟨⟨_, a1, rfl⟩, h _ ⟨⟨_, a1⟩, ⟨_, a2, rfl, rfl⟩, Nat.succ_ne_self _⟩ fun b o q => Heap.get?_push_of_some _ (Heap.get?_push_of_some _ q)⟩
/-- a tuple's things, each in a new pair -/
def IteT (K : PySem.W.Frag) (a : Addr) : It where
  go := fun i H => ∃ (xs : List V) (x : V), SqT K H a xs ∧ xs[i]? = some x
  yld := fun i H v H' => ∃ T x, v = .ref T ∧ H T = none ∧ H' = upd H T (.tup [.int (i : Nat), x]) ∧ ∀ xs, SqT K H a xs → xs[i]? = some x
  stop := fun i H => ∃ xs : List V, SqT K H a xs ∧ xs.length ≤ i
section
variable {P : Program} {w : World} {K : PySem.W.Frag} {elts : List Expr} {kk : Nat} {tpos : Pos}
theorem turnT_item {a e it : Addr} {X : Cx} (hc : X.calm = true) {i : Nat} {pins : List (Addr × Obj)} {s : Shared} {σ : L2.St} {H : Hp} {E : Value → Shared → Prop} (I : L2.Inv X pins σ H s) (hf : ∀ b ∈ [e, it], FpOk X pins H b) (st : EnAt a e it i s.heap) (hg : (IteT X.K a).go i H) :
    wpAny (model X.prog X.w) X.A (pyNext (.ref e)) (fun r s1 => ∃ u, r = some u ∧ wpAny (model X.prog X.w) X.A (letOwnedTupleGo (.Tuple elts kk tpos) (.ref e) u)
      (fun _ s2 => ∃ x H', L2.Inv X pins σ H' s2 ∧ RelV x u ∧ (IteT X.K a).yld i H x H' ∧ EnAt a e it (i + 1) s2.heap ∧ ∀ b ∈ [e, it], H' b = none) E s1) E s := by
  obtain ⟨⟨old, b1⟩, b2, b3⟩ := st
  obtain ⟨xs, x, hq, hx⟩ := hg
  obtain ⟨its, rv, tup, _⟩ := I.tuple hq
  obtain ⟨u, hu, ru⟩ := rv.get hx
  have fresh : ∀ b ∈ [e, it], b ≠ s.heap.objs.size := fun b hb q => by
    rcases List.mem_cons.mp hb with rfl | hb
    · exact Nat.ne_of_lt (Heap.lt_size b1) q
    · rw [List.mem_singleton.mp hb] at q
      obtain ⟨_, g, _⟩ := b2
      exact Nat.ne_of_lt (Heap.lt_size g) q
  have ai : a ≠ it := fun q => by
    obtain ⟨_, g1, g2, _⟩ := b2
    obtain ⟨_, g3, g4, _⟩ := tup
    rw [q, g1] at g3
    cases g3
    rw [g2] at g4
    exact absurd g4 (by decide)
  have ae : e ≠ a := fun q => by
    obtain ⟨_, g3, g4, _⟩ := tup
    rw [← q, b1] at g3
    cases g3
    exact absurd (show Value.type "enumerate" = Value.type "tuple" from g4) (by decide)
  refine wpAny_pyNext_enum_itemD (Draws.tuple (prog := X.prog) (w := X.w) (A := X.A.in1) (I.ok.hd hc) it a ai its.toArray) b1 ⟨b2, tup⟩ (by
    have := (List.getElem?_eq_some_iff.mp hu).1
    simpa using this) b3 (by simp [b3, ae]) fun y h' tk hy ho hst hT hz hk => ?_
  have eu : y = u := by
    have hy : its[i]? = some y := by simpa using hy
    exact Option.some.inj (hy.symm.trans hu)
  subst eu
  refine ⟨_, rfl, wpAny_letOwnedTupleGo_enum (s := { s with heap := h', toks := tk + 1 }) ho fun h2 he2 sb => ?_⟩
  have hT2 : h2.get? s.heap.objs.size = some { cls := .type "tuple", data := .seq #[.int i tk, y] } := (sb.2 _ (Ne.symm (fresh e (by simp)))).trans hT
  refine ⟨.ref s.heap.objs.size, upd H s.heap.objs.size (.tup [.int (i : Nat), x]), I.turnedNew (ch := [e, it]) (fun b ob hb q => ?_) hf (Nat.le_refl _) ⟨by show 2 ≤ sizeLine; decide, [.int i tk, y], .cons ⟨_, rfl⟩ (.cons ru .nil), _, hT2, rfl, _, rfl⟩, rfl,
    ⟨_, x, rfl, I.hok.fresh (Nat.le_refl _), rfl, fun ys hy => by rw [I.tuple_inj hy hq]; exact hx⟩, ⟨⟨_, by rw [show (((i + 1 : Nat) : Int)) = (i : Int) + 1 by omega]; exact he2⟩, ?_, b3⟩, fun b hb => ?_⟩
  · exact (sb.2 b fun q => hb (by simp [q])).trans (hk b ob (fun q => hb (by simp [q])) (fun q => hb (by simp [q])) q)
  · obtain ⟨o, g1, g2⟩ := hst.1
    exact ⟨o, (sb.2 it (Ne.symm b3)).trans g1, g2⟩
  · rw [upd_ne (fresh b hb)]
    exact (hf b hb).1
theorem turnT {a e it : Addr} : Turn P w K (.Tuple elts kk tpos) (IteT K a) [e, it] e (EnAt a e it) where
  mem := List.mem_cons_self
  keep := fun i h h' st k => st.e (fun o => k e (by simp) o) fun o => k it (by simp) o
  self := fun A i s Q E st h => wpAny_pyIter_enum st.1.choose_spec h
  obj := fun i h st b hb => by
    obtain ⟨⟨old, b1⟩, ⟨o, g1, _, g3⟩, _⟩ := st
    rcases List.mem_cons.mp hb with rfl | hb
    · exact ⟨_, b1, fun v => Data.noConfusion⟩
    · rw [List.mem_singleton.mp hb]
      exact ⟨o, g1, fun v q => by rw [g3] at q; cases q⟩
  item := fun X h1 h2 h3 hc i pins s σ H E I hf st hg => by
    subst h1 h2 h3
    exact turnT_item hc I hf st hg
  done := fun X h1 h2 h3 hc i pins s σ H E I hf st hg => by
    subst h1 h2 h3
    obtain ⟨⟨old, b1⟩, b2, _⟩ := st
    obtain ⟨xs, hq, hx⟩ := hg
    obtain ⟨its, rv, tup, _⟩ := I.tuple hq
    have hl := rv.length
    have f := hf it (by simp)
    unfold pyNext
    refine wpAny_bind (wpAny_attempt (wpAny_callSpecial?_slot (name := Str.ofString "__next__") ⟨_, b1, rfl⟩ F.slot_enumerate_next (wpAny_call_entry F.slot_enumerate_next ⟨_, b1, rfl⟩ F.entry_enumerate_next ?_ (F.args_enumerate_next_1 _))))
    show wpAny _ _ (field (.ref e) 2 >>= _) _ _ _
    refine wpAny_bind (wpAny_field b1 rfl (x := .ref it) rfl (wpAny_bind (wpAny_nextOf_tuple_end (I.ok.hd hc) b2 tup (by simp; omega) fun h' y k1 ⟨o, k2, k3⟩ => ?_)))
    exact wpAny_bind (wpAny_isInstance (T := "StopIteration") (b := true) ⟨o, k2, k3⟩ isSubtype_stop (wpAny_pure ⟨rfl, I.turned (t' := s.toks) (fun b o hb q => k1 b o hb q) f.1 f.2.1 f.2.2.2.1 f.2.2.2.2.1 f.2.2.2.2.2⟩))
end
section
variable {X : Cx} {cl : Cl} {W : WX} {pos : Pos} {elts : List Expr} {kk : Nat} {tpos : Pos} {a : Expr} {p : Pos}
def iEnumT (K : PySem.W.Frag) (ta : TA) : TI := fun σ H R => ta σ H fun vs H1 => ∃ a xs, vs = [.ref a] ∧ SqT K H1 a xs ∧ R (IteT K a) H1
theorem pi_enT {ta : TA} (hg : Gl X "enumerate") (hm : X.mg "enumerate" = none) (ha : PA X [a] ta) (hs : starEach [a] X.env = [(false, eval a X.env)]) : PI X (.Tuple elts kk tpos) (.Call (.Name "enumerate" p) [a] [] pos) (iEnumT X.K ta) :=
  ⟨fun pins s σ H R I h => by
    refine Call_ (ld_blt I hg hm boot_enumerate (PyProof.Rows.callWith_type1 (thn (ha.run pos pins s σ H _ I h) fun us s1 ⟨vs, H1, I1, r1, b, xs, ex, hq, q⟩ => ?_) hs rfl))
    subst ex
    obtain ⟨u, rfl, ru⟩ := r1.one
    cases ru
    obtain ⟨its, rv, tup, _⟩ := I1.tuple hq
    refine call_enT tup fun h' st hk => wpAny_pyIter_enum st.1.choose_spec ?_
    refine ⟨s1.heap.objs.size + 1, [s1.heap.objs.size + 1, s1.heap.objs.size], _, _, H1, rfl, I1.kept (t' := s1.toks) hk, turnT, st, fun c hc => ?_, q⟩
    have le : s1.heap.objs.size ≤ c := by
      rcases List.mem_cons.mp hc with rfl | hc
      · exact Nat.le_succ _
      · exact Nat.le_of_eq (List.mem_singleton.mp hc).symm
    exact I1.fpOk le (I1.hok.fresh le)⟩
def iEnT (R : TA3) : TI3 := fun s m k x => R s m (fun ds m1 => ∃ l, ds = [.tup l] ∧ k (enumD l) (fun _ => True) m1) x
theorem walk_enT {q : Addr} {l : List D} {vs : List V} {H0 : Hp} (h1 : SqT X.K H0 q vs) (h2 : Reps X.K H0 l vs) : Walk3 X.K cl H0 (IteT X.K q) (enumD l) fun _ => True := fun i H m e0 hm _ hi => by
  have h1 := e0.sqT h1
  have h2 := h2.mono e0
  refine ⟨fun e => ⟨vs, h1, by rw [enumD_length] at e; rw [← h2.length]; omega⟩, fun d hd => ?_⟩
  obtain ⟨y, h3, rfl⟩ := enumD_get hd
  obtain ⟨v, e1, r1⟩ := h2.get h3
  refine ⟨⟨vs, v, h1, e1⟩, fun z H' ⟨T, u, ez, hT, eH, hu⟩ => ?_⟩
  subst ez eH
  have f1 := hu vs h1
  rw [e1] at f1; cases f1
  exact ⟨rep_tup hT ⟨_, _, rfl, rfl, _, _, rfl, r1, rfl⟩, hm.hid hT, Ext.new hT⟩
theorem qi_enT {R : TA3} (hg : Gl X "enumerate") (hm : X.mg "enumerate" = none) (ha : QA X cl W [a] R) (hs : starEach [a] X.env = [(false, eval a X.env)]) : QI X cl W (.Tuple elts kk tpos) (.Call (.Name "enumerate" p) [a] [] pos) (iEnT R) :=
  ⟨fun s m k k' x x' hk hx h => ha.mono _ _ _ _ _ _ (fun ds m1 ⟨l, e, w⟩ => ⟨l, e, hk _ _ _ w⟩) hx h,
   PI.imp (pi_enT hg hm ha.run hs) fun σ H Q ⟨s, m, h1, h2, h⟩ => ⟨s, m, h1, h2, ha.mono _ _ _ _ _ _ (fun ds m1 ⟨l, e, w⟩ vs H1 r hm1 e1 => by
    subst e
    obtain ⟨v, rfl, q, us, rfl, q1, q2⟩ := reps1 r
    exact ⟨q, us, rfl, q1, w _ H1 (walk_enT q1 q2) hm1 e1⟩) (fun _ _ z => z) h⟩⟩
end
theorem x_ienT {R : TA3} {s : S3} {m : Mp} {x : X3} {ki : List D → (Mp → Prop) → Mp → Prop} (h : R s m (fun ds m1 => ∃ l, ds = [.tup l] ∧ ki (enumD l) (fun _ => True) m1) x) : iEnT R s m ki x := h
theorem x_ieT {ki : List D → (Mp → Prop) → Mp → Prop} {l : List D} {m : Mp} (h : ki (enumD l) (fun _ => True) m) : ∃ l', [D.tup l] = [.tup l'] ∧ ki (enumD l') (fun _ => True) m := ⟨l, rfl, h⟩
end PV

/-! list.pop(0); len(set(..)) of a list of texts. -/
namespace PV
open PySem L2 PyProof.Rows
/-! ### the texts of a row, each once -/
def once (acc : List Str) (x : Str) : List Str := if x ∈ acc then acc else acc ++ [x]
def seen (xs : List Str) : List Str := xs.foldl once []
theorem seen_snoc {xs : List Str} {x : Str} : seen (xs ++ [x]) = once (seen xs) x := by unfold seen; rw [List.foldl_append]; rfl
theorem once_len {acc : List Str} {x : Str} : (once acc x).length ≤ acc.length + 1 := by
  unfold once
  split
  · omega
  · rw [List.length_append, List.length_singleton]; omega
theorem seen_len : ∀ {xs acc : List Str}, (xs.foldl once acc).length ≤ acc.length + xs.length
  | [], acc => Nat.le_refl _
  | x :: xs, acc => by
    have a := seen_len (xs := xs) (acc := once acc x)
    have b := once_len (acc := acc) (x := x)
    show (xs.foldl once (once acc x)).length ≤ acc.length + (xs.length + 1)
    omega
section
variable {prog : Program} {w : World} {A : Around} {E : Value → Shared → Prop} {s : Shared}
/-- a set of just these texts -/
abbrev HoldsT (prog : Program) (w : World) (h : Heap) (a : Addr) (acc : List Str) : Prop := h.SetOf (PySem.strKind prog w) a (fun k => decide (k ∈ acc)) acc.length
theorem HoldsT.fr {h h' : Heap} {a : Addr} {acc : List Str} (x : HoldsT prog w h a acc) (k : ∀ o, h.get? a = some o → h'.get? a = some o) : HoldsT prog w h' a acc := by
  obtain ⟨o, es, ep, t, g, r⟩ := x
  exact ⟨o, es, ep, t, k o g, r⟩
theorem addT {a : Addr} {acc : List Str} {x : Str} {u : Tok} {Q : Bool → Shared → Prop} (h : HoldsT prog w s.heap a acc) (n : acc.length + 1 < scanBound)
    (q : ∀ h' t b, Heap.SameBut a s.heap h' → HoldsT prog w h' a (once acc x) → Q b { s with heap := h', toks := t }) : wpAny (model prog w) A (holding [Value.str x u] (setAdd a (.str x u))) Q E s := by
  refine wpAny_holding ?_
  unfold setAdd
  refine wpAny_holding (wpAny_bind ((PySem.strKind prog w).pyHash (k := x) (strKind_is _ _ _ _) (wpAny_setAddHashed_of (knd := PySem.strKind prog w) (s := { s with toks := s.toks + 1 }) (strKind_is _ _ _ _) rfl h n fun h' sb h2 => ?_)))
  refine q h' _ _ sb ?_
  have e1 : (fun k' => decide (k' ∈ acc) || decide (k' = x)) = fun k' => decide (k' ∈ once acc x) := by
    funext k'
    unfold once
    by_cases hx : x ∈ acc
    · rw [if_pos hx]
      by_cases hk : k' = x
      · subst hk; simp [hx]
      · simp [hk]
    · rw [if_neg hx]; simp
  have e2 : (if decide (x ∈ acc) = true then acc.length else acc.length + 1) = (once acc x).length := by
    unfold once
    by_cases hx : x ∈ acc
    · rw [if_pos hx, if_pos (decide_eq_true hx)]
    · rw [if_neg hx, if_neg (by rw [decide_eq_false hx]; decide), List.length_append, List.length_singleton]
  rw [e1, e2] at h2
  exact h2
/-- what a code wants, handed on -/
theorem wants_to {c : Code} {Q1 : Value → Shared → Prop} {R : Result → Shared → Prop} (h : codeAny (model prog w) A c (wants Q1 E) s) (k : ∀ v s1, Q1 v s1 → R (.ok (.ret v)) s1) (ke : ∀ e s1, E e s1 → R (.error e) s1) : codeAny (model prog w) A c R s :=
  codeAny_mono h fun r s1 hr => match r, hr with
    | .ok (.ret v), hr => k v s1 hr
    | .error e, hr => ke e s1 hr
/-- the loop: the rest of the list, text by text -/
theorem loopT {l it a : Addr} {xs : List Str} {items : Array Value} {R : Result → Shared → Prop} (hv : ∀ (i : Nat) (v : Value), items[i]? = some v → ∃ t, v = .str (xs.getD i Str.empty) t) (hn : xs.length = items.size) (hm : xs.length + 1 < scanBound) (al : a ≠ l) (ai : a ≠ it)
    (W : Walks prog w A.in1 it [it, l] [it] items.size (fun i v => items[i]? = some v) fun i h => h.IsListIter it l i ∧ h.IsList l items) : ∀ (k i : Nat) (s : Shared), i + k = items.size → (s.heap.IsListIter it l i ∧ s.heap.IsList l items) → HoldsT prog w s.heap a (seen (xs.take i)) →
    (∀ h' t, HoldsT prog w h' a (seen xs) → (∀ b o, b ≠ a → b ≠ it → s.heap.get? b = some o → h'.get? b = some o) → R (.ok (.ret .none)) { s with heap := h', toks := t }) → codeAny (model prog w) A (.builtin "set.update.loop" ⟨[.ref a, .ref it], []⟩) R s
  | 0, i, s, e, st, h, q => by
    obtain rfl : i = items.size := e
    refine codeAny_builtin PyProof.Rows.F.entry_set_update_loop ((Around.under_plainId PyProof.Rows.F.plain_set_update_loop _).symm ▸ wpAny_bind (W.done s _ _ st fun h' t k => wpAny_pure (q h' t ?_ fun b o _ n => k b o (by simpa using n))))
    rw [← hn, List.take_length] at h
    exact h.fr fun o => k a o (by simpa using ai)
  | k + 1, i, s, e, st, h, q => by
    have lt : i < items.size := by omega
    refine codeAny_builtin PyProof.Rows.F.entry_set_update_loop ((Around.under_plainId PyProof.Rows.F.plain_set_update_loop _).symm ▸ wpAny_bind (W.item i s _ _ lt st fun v h1 t1 hv1 st1 k1 => ?_))
    obtain ⟨u, rfl⟩ := hv i v hv1
    have len : (seen (xs.take i)).length ≤ i := by
      have := seen_len (xs := xs.take i) (acc := [])
      rw [List.length_take, List.length_nil] at this
      unfold seen
      omega
    have nx : seen (xs.take (i + 1)) = once (seen (xs.take i)) (xs.getD i Str.empty) := by
      rw [List.take_add_one, show xs[i]?.toList = [xs.getD i Str.empty] by rw [List.getD_eq_getElem?_getD, List.getElem?_eq_getElem (by omega)]; rfl, seen_snoc]
    refine wpAny_bind (addT (s := { s with heap := h1, toks := t1 }) (h.fr fun o => k1 a o (by simpa using ai)) (by omega) fun h2 t2 _ sb r2 => ?_)
    have k2 : ∀ b o, b ≠ a → h1.get? b = some o → h2.get? b = some o := fun b o n g => (sb.2 b n).trans g
    refine wpAny_pure ⟨plainId_quiet PyProof.Rows.F.plain_set_update_loop _, loopT hv hn hm al ai W k (i + 1) _ (by omega) (W.frame _ h1 h2 st1 fun b hb o g => k2 b o (fun z => ?_) g) (by rw [nx]; exact r2) fun h3 t3 r3 k3 => q h3 t3 r3 fun b o n1 n2 g => k3 b o n1 n2 (k2 b o n1 (k1 b o (by simpa using n2) g))⟩
    subst z
    rcases List.mem_cons.mp hb with z | z
    · exact ai z
    · exact al (List.mem_singleton.mp z)
abbrev newSt (led : Bool) : Obj := { cls := .type "set", data := .set #[] 0 (.fresh 0 0 led) }
theorem newT {h : Heap} {a : Addr} {led : Bool} (g : h.get? a = some (newSt led)) : HoldsT prog w h a [] :=
  SetOf_congr ((PyProof.Rows.setObjOf_fresh (knd := PySem.strKind prog w) led).setOf g (by unfold scanBound; omega)) (fun _ => rfl) rfl
/-- what __init__ does with a list of texts -/
theorem initT {l a : Addr} {xs : List Str} {items : Array Value} {led : Bool} {R : Result → Shared → Prop} (hh : A.handled = none) (hv : ∀ (i : Nat) (v : Value), items[i]? = some v → ∃ t, v = .str (xs.getD i Str.empty) t) (hn : xs.length = items.size) (hm : xs.length + 1 < scanBound)
    (hl : s.heap.IsList l items) (hs : s.heap.get? a = some (newSt led)) (q : ∀ h' t, HoldsT prog w h' a (seen xs) → (∀ b o, b ≠ a → s.heap.get? b = some o → h'.get? b = some o) → R (.ok (.ret .none)) { s with heap := h', toks := t }) :
    wpAny (model prog w) A.in1 (Builtin.«set.__init__» ⟨[.ref a, .ref l], []⟩) (fun fin s' => match fin with | .done f => R (.ok f) s' | .again c' => c'.quiet = true ∧ codeAny (model prog w) A c' R s') (fun e s' => R (.error e) s') s := by
  obtain ⟨hp, g, dw, tk, os⟩ := s
  obtain ⟨⟨c, dx, da, sl⟩, e1, e2, n, e3⟩ := id hl
  cases (show c = _ from e2)
  cases (show da = _ from e3)
  replace e1 : hp.get? l = _ := e1
  replace hs : hp.get? a = _ := hs
  have al : a ≠ l := fun z => by
    rw [z, e1] at hs
    exact absurd (show Value.type "list" = Value.type "set" from congrArg Obj.cls (Option.some.inj hs)) (by decide)
  have ai : a ≠ hp.objs.size := Nat.ne_of_lt (Heap.lt_size hs)
  have li : l ≠ hp.objs.size := Nat.ne_of_lt (Heap.lt_size e1)
  have f1 := PySem.F.sub_list_set
  have f2 := PySem.F.sub_list_frozenset
  have f3 : (Value.type "list" == Value.type "dict") = false := by decide
  have f4 := PySem.sub_set_self
  unfold Builtin.«set.__init__» noKeywords Builtin.Frozenset.updateFrom
  wp_walk using AutoSeq1.wpAny_loadPart' e1, AutoSeq1.wpAny_loadPart' hs, wpAny_pyIter_list hl
  have keep : ∀ b o, hp.get? b = some o → (hp.push { cls := Value.type "list_iterator", data := Data.fields #[Value.ref l, Value.int 0 0] }).get? b = some o := fun b o y => Heap.get?_push_of_some _ y
  refine loopT (l := l) (it := hp.objs.size) hv hn hm al ai (Walks.list (show A.in1.in1.handled = none by simp [hh]) hp.objs.size l li items) items.size 0 _ (Nat.zero_add _) ⟨⟨_, Heap.get?_push_size _ rfl, rfl, rfl⟩, hl.push _⟩ ((newT hs).fr fun o y => keep a o y) fun h' t r k => ?_
  exact wpAny_pure (wpAny_pure (q h' t r fun b o n y => k b o n (Nat.ne_of_lt (Heap.lt_size (show hp.get? b = some o from y))) (keep b o y)))
/-- set(..) of a list of texts -/
theorem call_setT {l : Addr} {xs : List Str} {items : Array Value} {Q : Value → Shared → Prop} (hh : A.handled = none) (hv : ∀ (i : Nat) (v : Value), items[i]? = some v → ∃ t, v = .str (xs.getD i Str.empty) t) (hn : xs.length = items.size) (hm : xs.length + 1 < scanBound)
    (hl : s.heap.IsList l items) (q : ∀ h' t a, HoldsT prog w h' a (seen xs) → (∀ b o, s.heap.get? b = some o → h'.get? b = some o) → Q (.ref a) { s with heap := h', toks := t }) : wpAny (model prog w) A (call (.type "set") [.ref l]) Q E s := by
  have m1 := PySem.F.called_set.notType
  have m2 := PySem.F.called_set.canCreate
  have m3 := PySem.F.called_set.made
  have m4 := PySem.F.called_set.sub
  have m5 := PySem.F.typeCall_set_1 (.ref l)
  obtain ⟨m6, m7, m8⟩ := PySem.F.called_set.mro
  have fin : ∀ led (s1 : Shared), s1 = { s with heap := s.heap.push (newSt led) } → wpAny (model prog w) A.in1.in1 (Builtin.«set.__init__» ⟨[.ref s.heap.objs.size, .ref l], []⟩)
      (fun fin s' => match fin with | .done f => wants (fun r s2 => r = .none ∧ Q (.ref s.heap.objs.size) s2) E (.ok f) s' | .again c' => c'.quiet = true ∧ codeAny (model prog w) A.in1 c' (wants (fun r s2 => r = .none ∧ Q (.ref s.heap.objs.size) s2) E) s') (fun e s' => E e s') s1 := fun led s1 e => by
    subst e
    refine initT (A := A.in1) (R := wants (fun r s2 => r = .none ∧ Q (.ref s.heap.objs.size) s2) E) (by simp [hh]) hv hn hm (hl.push _) (Heap.get?_push_size _ rfl) fun h' t r k => ⟨rfl, q h' t _ r fun b o y => k b o (Nat.ne_of_lt (Heap.lt_size y)) (Heap.get?_push_of_some _ y)⟩
  refine wpAny_call (codeAny_of_tree (wpAny_pure ⟨Code.quiet_builtin _ (by decide +kernel), codeAny_builtin PySem.F.entry_type_call ?_⟩))
  rw [Around.under_plain (weight_type_call_type "set" [.ref l] []) (units_type_call_type "set" [.ref l] [])]
  all_goals repeat (first | wp_step | assumption)
  refine wants_to (E := E) (code_set_new_1 (.ref l) (Q₁ := fun v s1 => ∃ led, v = .ref s.heap.objs.size ∧ s1 = { s with heap := s.heap.push (newSt led) }) fun led => ⟨led, rfl, rfl⟩) (fun v s1 ⟨led, e1, e2⟩ => ?_) fun e s1 h => h
  have ty : s1.TypeIs v "set" := by
    subst e1 e2
    exact ⟨_, Heap.get?_push_size _ rfl, rfl⟩
  have m9 := PySem.F.called_set.init.lookup
  have mA := PySem.F.called_set.init.bind v
  all_goals repeat (first | wp_step | assumption)
  subst e1
  refine wants_to (E := E) (codeAny_call_builtin PySem.F.called_set.init.plain PySem.F.entry_set_init (check_set_init_1 ty (fin led s1 e2))) (fun r s2 ⟨e3, h⟩ => ?_) fun e s1 h => h
  subst e3
  all_goals repeat (first | wp_step | assumption)
end
section
variable {X : Cx} {cl : Cl} {W : WX} {pos : Pos} {a : Expr} {A : TE3} {ta : TE} {p p2 q : Pos}
theorem strs_get : ∀ {us : List Value} {xs : List Str}, Vals (xs.map V.str) us → ∀ (i : Nat) (v : Value), us[i]? = some v → ∃ t, v = .str (xs.getD i Str.empty) t
  | _ :: _, x :: xs, .cons r t, 0, v, h => by
    obtain ⟨k, e⟩ := r
    rw [List.getElem?_cons_zero] at h
    exact ⟨k, (Option.some.inj h).symm.trans e⟩
  | _ :: _, x :: xs, .cons r t, i + 1, v, h => strs_get t i v h
/-- len(set(..)) of a list of texts -/
def tLSet (K : PySem.W.Frag) (ta : TE) : TE := fun σ H Q => ta σ H fun x H1 => ∃ l, ∃ xs : List Str, x = .ref l ∧ SqL K H1 l (xs.map V.str) ∧ xs.length ≤ 1000 ∧ Q (.int (seen xs).length) H1
theorem pe_lset (hc : X.calm = true) (hg : Gl X "len") (hm : X.mg "len" = none) (hg2 : Gl X "set") (hm2 : X.mg "set" = none) (ha : PE X a ta) (na : starEach [a] X.env = (false, eval a X.env) :: starEach [] X.env) :
    PE X (.Call (.Name "len" p) [.Call (.Name "set" p2) [a] [] q] [] pos) (tLSet X.K ta) :=
  ⟨fun pins s σ H Q I h => Call_ (ld_blt I hg hm boot_len (PyProof.Rows.callWith_builtin1 (PyProof.Rows.args_cons (Call_ (ld_blt I hg2 hm2 boot_set
    (PyProof.Rows.callWith_type1 (PyProof.Rows.args_cons (thn (ha.run pins s σ H _ I h) fun v s1 ⟨x, H1, I1, r1, l, xs, ex, hq, hl, k⟩ => PyProof.Rows.args_nil (by
      subst ex
      cases r1
      obtain ⟨its, rv, pl, _⟩ := I1.list hq
      have hn : xs.length = its.toArray.size := by rw [List.size_toArray, ← rv.length, List.length_map]
      refine call_setT (I1.ok.hd hc) (fun i v h => strs_get rv i v (by simpa using h)) hn (by unfold scanBound; omega) pl.isList fun h' t a hS hk => PyProof.Rows.args_nil ?_
      obtain ⟨o, es, ep, tb, ho, hex, hd, _, _, _, hf, he⟩ := hS
      have I2 : L2.Inv X pins σ H1 { s1 with heap := h', toks := t } := I1.kept hk
      have nn : (es.size : Int) < 2 ^ 63 := by
        have := seen_len (xs := xs) (acc := [])
        rw [List.length_nil] at this
        unfold seen at he
        have e63 : (2 : Int) ^ 63 = 9223372036854775808 := by decide
        omega
      exact call_len_set ho hex hd hf nn ⟨.int (seen xs).length, H1, I2.tok _, ⟨_, by rw [he]⟩, k⟩)) na) na rfl))) rfl) rfl rfl))⟩
def eLSet (A : TE3) : TE3 := fun s m k x => A s m (fun d m1 => ∃ l, ∃ xs : List Str, d = .ref l ∧ RL m1 l (xs.map D.str) ∧ xs.length ≤ 1000 ∧ k (.int (seen xs).length) m1) x
theorem q_lset (hc : X.calm = true) (hg : Gl X "len") (hm : X.mg "len" = none) (hg2 : Gl X "set") (hm2 : X.mg "set" = none) (ha : QE X cl W a A) (na : starEach [a] X.env = (false, eval a X.env) :: starEach [] X.env) :
    QE X cl W (.Call (.Name "len" p) [.Call (.Name "set" p2) [a] [] q] [] pos) (eLSet A) :=
  ⟨fun s m k k' x x' hk hx h => ha.mono _ _ _ _ _ _ (fun d m1 ⟨l, xs, e, z, n, w⟩ => ⟨l, xs, e, z, n, hk _ _ w⟩) hx h,
   PE.imp (pe_lset hc hg hm hg2 hm2 ha.run na) fun σ H Q ⟨s, m, hs, hm, h⟩ => ⟨s, m, hs, hm, ha.mono _ _ _ _ _ _ (fun d m1 ⟨l, xs, e, z, n, w⟩ v H1 r1 hm1 e1 => by
    subst e
    cases r1
    obtain ⟨us, q1, q2⟩ := hm1.rl z
    have e := q2.strs
    subst e
    exact ⟨l, xs, rfl, q1, n, w _ H1 rfl hm1 e1⟩) (fun _ _ z => z) h⟩⟩
theorem x_lset {s : S3} {m : Mp} {k : K3} {x : X3} (h : A s m (fun d m1 => ∃ l, ∃ xs : List Str, d = .ref l ∧ RL m1 l (xs.map D.str) ∧ xs.length ≤ 1000 ∧ k (.int (seen xs).length) m1) x) : eLSet A s m k x := h
/-! ### pop(0) -/
def rPop0 : V → List V → Hp → VK → Prop := fun x vs H Q => ∃ l xs y, x = .ref l ∧ vs = [.int 0] ∧ H l = some (.lst (y :: xs)) ∧ Q y (upd H l (.lst xs))
theorem mt_pop0 : MtM X "list.pop" rPop0 := fun pins s σ H x vs v us Q I rx rv ⟨l, xs, y, e1, e2, h, q⟩ =>
  mt_popAt pins s σ H x vs v us Q I rx rv ⟨l, y :: xs, 0, 0, y, e1, e2, h, by decide, by decide, by unfold seqIndex?; simp, rfl, q⟩
def fPop0 (o : D) (ds : List D) (m : Mp) (k : K3) : Prop := ∃ q l y, o = .ref q ∧ ds = [.int 0] ∧ m q = some (.lst (y :: l)) ∧ k y (mset m q (.lst l))
theorem up_pop0 : UpM X cl fPop0 rPop0 := fun H m o v ds vs Q r1 r2 hm ⟨q, l, y, e1, e2, h1, h3⟩ => by
  subst e1 e2
  have r' : v = .ref q := r1
  subst r'
  obtain ⟨u, rfl, ru⟩ := reps1 r2
  have ru' : u = .int 0 := ru
  subst ru'
  obtain ⟨us, q1, q2⟩ := hm.1 q _ h1
  obtain ⟨w, ws, rfl, r3, r4⟩ := q2
  exact ⟨q, ws, w, rfl, rfl, q1, h3 _ _ (r3.mono (ext_lst q1)) (put_lst hm q1 r4) (ext_lst q1)⟩
theorem mono_pop0 : MonoM fPop0 := fun o ds m k k' hk ⟨q, l, y, e1, e2, h1, h3⟩ => ⟨q, l, y, e1, e2, h1, hk _ _ h3⟩
end
theorem xf_pop0 {q : Addr} {l : List D} {y : D} {m : Mp} {k : K3} (h1 : m q = some (.lst (y :: l))) (h : k y (mset m q (.lst l))) : fPop0 (.ref q) [.int 0] m k := ⟨q, l, y, rfl, rfl, h1, h⟩
end PV

/-! except (C1, C2, C3, C4) as n. -/
namespace PV
open PySem L2 PyProof.Rows
section
variable {X : Cx} {W : WX} {cl : Cl}
/-- except (C1, C2, C3, C4) as n: -/
theorem clauses_four {n1 n2 n3 n4 y : Str} {c1 c2 c3 c4 : Value} {i : Nat} {ts : Addr → Value → Option Addr → TS} {b0 : Stmt} {suite : List Stmt} {p1 p2 p3 p4 tp hp : Pos} {kk : Nat} {rest : List ExceptHandler} {w : Ends → WX} (hst : X.stack = X.env :: X.outer) (hef : X.env.frame = some X.env.locals) (hx : X.ex = []) (hN : X.N.Nodup) (hi : X.N[i]? = some y) (hy : X.env.kindOf y = some .local)
    (h1 : Names X n1 c1) (h2 : Names X n2 c2) (h3 : Names X n3 c3) (h4 : Names X n4 c4) (hsu : ∀ (a : Addr) (cls : Value) (d : Option Addr) (pn : List (Addr × Obj)), PSs (X.suite a pn) (b0 :: suite) (ts a cls d)) (r : Clauses X rest w) :
    Clauses X (.ExceptHandler (some (.Tuple [.Name n1 p1, .Name n2 p2, .Name n3 p3, .Name n4 p4] kk tp)) (some y) (b0 :: suite) hp :: rest) fun D cls d σ H => ∃ b, PySem.W.exmAny X.K cls [c1, c2, c3, c4] = some b ∧ (b = true → ∀ a, H a = none → ts a cls d (endI i D) (σ.set i (some (.ref a))) (upd H a (exoH cls d a))) ∧ (b = false → w D cls d σ H) := by
  rintro pins σ H a cls d B sI s D L ⟨b, eb, yes, no⟩
  obtain ⟨oe, vs, g, z, e⟩ := L.obj
  have type : PySem.W.Looks (model X.prog X.w) s.heap (typeOf (.ref a)) cls := fun A Q E s' k q => wpAny_typeOf_ref (k _ _ g) (by rw [z.1]; exact q)
  refine wpAny_handleBy_cons (codeAny_handlers_test (wpAny_Tuple (wpAny_items_cons (name_read L hst hef hx h1 (wpAny_items_cons (name_read L hst hef hx h2 (wpAny_items_cons (name_read L hst hef hx h3 (wpAny_items_cons (name_read L hst hef hx h4 (wpAny_items_nil ⟨by size_fits, ?_⟩))))))))))) (fun q => nomatch q)
  have up : ∀ b o, s.heap.get? b = some o → (s.heap.push { cls := .type "tuple", data := .seq [c1, c2, c3, c4].toArray }).get? b = some o := fun _ _ => Heap.get?_push_of_some _
  have L5 := L.more up
  refine (PySem.W.exm_tup4 (M := model X.prog X.w) L5.state.kIn (type.keeps up) (Heap.get?_push_size s.heap rfl) eb).here ?_
  generalize s.heap.push { cls := .type "tuple", data := .seq [c1, c2, c3, c4].toArray } = h5 at *
  cases b with
  | false => exact r pins σ H a cls d B sI _ D L5 (no rfl)
  | true =>
    refine codeAny_handlers_suite_as (HandSPX.lands_againZ L5.fly fun h fl up6 => ?_)
    have L6 : Landed X pins σ H a cls d B sI { s with heap := h } := { L with slots := L5.slots.trans up6, fly := fl }
    refine store_ok (X := X.suite a (X.pn ++ pins)) (v := V.ref a) (L6.tracked hst hef hx) hN hi (.inl hy) rfl (fun s5 J5 => ?_) (.inr hy)
    refine wpAny_mono ((hsu a cls d (X.pn ++ pins)).run [] _ _ _ (endI i D) J5 (yes rfl a L.free)) (fun f s' q => ?_) fun _ _ q => q.elim
    have gone : ∀ {σ' : L2.St} {H' : Hp} {R : Shared → Prop}, Inv X pins σ' H' s' → (∀ s7, Inv X pins (σ'.set i none) H' s7 → R s7) → wpAny (model X.prog X.w) X.A (do bindName X.env y .none; unbindBehindTheSuite X.env y hp) (fun _ s7 => R s7) X.xe s' := fun J q => gone_ok J hN hi hy q
    have q := suite_end L.inv.ok q
    cases f with
    | ret u => obtain ⟨v, σ', H', J, rv, k⟩ := q; exact gone J fun s7 J7 => ⟨v, _, H', J7, rv, k⟩
    | next => obtain ⟨σ', H', J, k⟩ := q; exact gone J fun s7 J7 => ⟨_, H', J7, k⟩
    | brk => obtain ⟨σ', H', J, k⟩ := q; exact gone J fun s7 J7 => ⟨_, H', J7, k⟩
    | cont => obtain ⟨σ', H', J, k⟩ := q; exact gone J fun s7 J7 => ⟨_, H', J7, k⟩
/-- one suite for several classes -/
abbrev same4 (n1 n2 n3 n4 : String) (i : Nat) (S : TS3) : List Hd3 := [(n1, some i, S), (n2, some i, S), (n3, some i, S), (n4, some i, S)]
theorem mono_same {S : TS3} {i : Nat} (hS : MonoS S) {D D' : N3} (l : N3.Le D D') : ∀ (ns : List String) s x m, dsp (ns.map fun n => (n, some i, S)) D s x m → dsp (ns.map fun n => (n, some i, S)) D' s x m
  | [] => l.ex
  | n :: ns => fun s x m h => c_dsp (fun q a ha => hS _ _ _ _ (endN_mono l) ((dsp_c h).1 q a ha)) fun q => mono_same hS l ns s x m ((dsp_c h).2 q)
theorem qs_try4 {body : List Stmt} {n1 n2 n3 n4 : String} {x1 x2 x3 x4 y : Str} {i : Nat} {S B : TS3} {b₀ : Stmt} {suite : List Stmt} {p1 p2 p3 p4 tp pos' pos : Pos} {kk : Nat} (EK : ExK X.K X.mg cl) (hs : X.stack = X.env :: X.outer) (hf : X.env.frame = some X.env.locals) (hex : X.ex = []) (hN : X.N.Nodup) (tk : Takes X W) (pw : PassesOwn (model X.prog X.w) X.A X.env X.xe)
    (hb : ∀ (W : WX) (pn : List (Addr × Obj)) (xe : Value → Shared → Prop), Takes (X.tr pn xe) W → PassesOwn (model X.prog X.w) X.A X.env xe → QB (X.tr pn xe) cl W body B)
    (hn1 : n1 ∈ eNames) (hc1 : ∃ a, cl n1 = some a) (hx1 : x1 = Str.ofString n1) (hg1 : Gl X x1) (hd1 : (x1 == ("__debug__" : Str)) = false)
    (hn2 : n2 ∈ eNames) (hc2 : ∃ a, cl n2 = some a) (hx2 : x2 = Str.ofString n2) (hg2 : Gl X x2) (hd2 : (x2 == ("__debug__" : Str)) = false)
    (hn3 : n3 ∈ eNames) (hc3 : ∃ a, cl n3 = some a) (hx3 : x3 = Str.ofString n3) (hg3 : Gl X x3) (hd3 : (x3 == ("__debug__" : Str)) = false)
    (hn4 : n4 ∈ eNames) (hc4 : ∃ a, cl n4 = some a) (hx4 : x4 = Str.ofString n4) (hg4 : Gl X x4) (hd4 : (x4 == ("__debug__" : Str)) = false)
    (hi : X.N[i]? = some y) (hln : X.env.kindOf y = some .local) (hsu : ∀ (a : Addr) (pn : List (Addr × Obj)), QB (X.suite a pn) cl W0 (b₀ :: suite) S) :
    QS X cl W (.Try body [.ExceptHandler (some (.Tuple [.Name x1 p1, .Name x2 p2, .Name x3 p3, .Name x4 p4] kk tp)) (some y) (b₀ :: suite) pos'] [] [] pos) (sTry B (same4 n1 n2 n3 n4 i S)) := by
  have mS : MonoS S := (hsu 0 []).mono
  obtain ⟨a1, e1⟩ := hc1
  obtain ⟨a2, e2⟩ := hc2
  obtain ⟨a3, e3⟩ := hc3
  obtain ⟨a4, e4⟩ := hc4
  have k1 := clauses_four (X := X) (ts := fun _ _ _ => upS X.K cl W0 S) hs hf hex hN hi hln (p1 := p1) (p2 := p2) (p3 := p3) (p4 := p4) (tp := tp) (hp := pos') (kk := kk) ⟨hg1, hd1, .inl (hx1 ▸ EK.at_ n1 hn1 a1 e1)⟩ ⟨hg2, hd2, .inl (hx2 ▸ EK.at_ n2 hn2 a2 e2)⟩ ⟨hg3, hd3, .inl (hx3 ▸ EK.at_ n3 hn3 a3 e3)⟩ ⟨hg4, hd4, .inl (hx4 ▸ EK.at_ n4 hn4 a4 e4)⟩ (fun a cls d pn => (hsu a pn).run) (clauses_none hs hf tk)
  obtain ⟨w, k1, k2⟩ : ∃ w, Clauses X [.ExceptHandler (some (.Tuple [.Name x1 p1, .Name x2 p2, .Name x3 p3, .Name x4 p4] kk tp)) (some y) (b₀ :: suite) pos'] w ∧ Meets X cl W (same4 n1 n2 n3 n4 i S) w := ⟨_, k1, fun D H s x m h σ c dd H' hs rx hm e => by
    obtain ⟨yes1, no1⟩ := dsp_c h
    obtain ⟨C, hC, hc, rfl, rfl⟩ := id rx
    have f1 := (EK.sub x.cls hC C hc n1 hn1 a1 e1).2
    have f2 := (EK.sub x.cls hC C hc n2 hn2 a2 e2).2
    have f3 := (EK.sub x.cls hC C hc n3 hn3 a3 e3).2
    have f4 := (EK.sub x.cls hC C hc n4 hn4 a4 e4).2
    refine ⟨subX x.cls n1 || (subX x.cls n2 || (subX x.cls n3 || (subX x.cls n4 || false))), by simp only [PySem.W.exmAny, f1, f2, f3, f4], fun q a ha => ?_, fun q => ?_⟩
    · cases q1 : subX x.cls n1 with
      | true => exact meets_suite (sl := some i) mS hs rx hm e ha (yes1 q1)
      | false =>
        obtain ⟨yes2, no2⟩ := dsp_c (no1 q1)
        cases q2 : subX x.cls n2 with
        | true => exact meets_suite (sl := some i) mS hs rx hm e ha (yes2 q2)
        | false =>
          obtain ⟨yes3, no3⟩ := dsp_c (no2 q2)
          cases q3 : subX x.cls n3 with
          | true => exact meets_suite (sl := some i) mS hs rx hm e ha (yes3 q3)
          | false =>
            obtain ⟨yes4, no4⟩ := dsp_c (no3 q3)
            cases q4 : subX x.cls n4 with
            | true => exact meets_suite (sl := some i) mS hs rx hm e ha (yes4 q4)
            | false => rw [q1, q2, q3, q4] at q; cases q
    · simp only [Bool.or_eq_false_iff] at q
      obtain ⟨q1, q2, q3, q4, _⟩ := q
      exact (dsp_c ((dsp_c ((dsp_c (no1 q1)).2 q2)).2 q3)).2 q4 σ _ _ H' hs rx hm e⟩
  have mB : MonoS B := (hb (fun _ _ _ _ => False) X.pn X.xe takes_none5 pw).mono
  have mono : ∀ {D D' : N3}, N3.Le D D' → ∀ s x m, dsp (same4 n1 n2 n3 n4 i S) D s x m → dsp (same4 n1 n2 n3 n4 i S) D' s x m := fun l => mono_same mS l [n1, n2, n3, n4]
  refine ⟨fun s m D D' le q => mB s m { D with ex := dsp (same4 n1 n2 n3 n4 i S) D } { D' with ex := dsp (same4 n1 n2 n3 n4 i S) D' } ⟨le.nx, le.rt, le.bk, le.ct, mono le⟩ q, ?_⟩
  refine PS.imp (try_clauses (tb := fun W => upS X.K cl W B) hs hf (fun W pn xe t p => (hb W pn xe t p).run) k1) fun D σ H ⟨s, m, h1, h2, q⟩ => ⟨s, m, h1, h2, ?_⟩
  exact mB s m { (cN X.K cl W H D) with ex := dsp (same4 n1 n2 n3 n4 i S) (cN X.K cl W H D) } (cN X.K cl (w D) H D) ⟨fun _ _ h => h, fun _ _ h => h, fun _ _ h => h, fun _ _ h => h, fun s x m h σ c dd H' a b e f => k2 D H s x m h σ c dd H' a b e f⟩ q
end
end PV

/-! enumerate(..) of a list or of a tuple. -/
namespace PV
open PySem L2 PyProof.Rows
section
variable {X : Cx} {cl : Cl} {W : WX} {pos : Pos} {elts : List Expr} {kk : Nat} {tpos : Pos} {a : Expr} {p : Pos} {R : TA3}
def iEnX (R : TA3) : TI3 := fun s m k x => iEn R s m k x ∨ iEnT R s m k x
theorem qi_enX (hg : Gl X "enumerate") (hm : X.mg "enumerate" = none) (ha : QA X cl W [a] R) (hs : starEach [a] X.env = [(false, eval a X.env)]) : QI X cl W (.Tuple elts kk tpos) (.Call (.Name "enumerate" p) [a] [] pos) (iEnX R) where
  mono := fun s m k k' x x' hk hx h => h.imp ((qi_enum (elts := elts) (kk := kk) (tpos := tpos) (p := p) (pos := pos) hg hm ha hs).mono s m k k' x x' hk hx) ((qi_enT (elts := elts) (kk := kk) (tpos := tpos) (p := p) (pos := pos) hg hm ha hs).mono s m k k' x x' hk hx)
  run := ⟨fun pins s σ H R' I ⟨s3, m, h1, h2, h⟩ => h.elim (fun h => (qi_enum hg hm ha hs).run.run pins s σ H R' I ⟨s3, m, h1, h2, h⟩) fun h => (qi_enT hg hm ha hs).run.run pins s σ H R' I ⟨s3, m, h1, h2, h⟩⟩
theorem x_enXL {s : S3} {m : Mp} {k : List D → (Mp → Prop) → Mp → Prop} {x : X3} (h : iEn R s m k x) : iEnX R s m k x := .inl h
theorem x_enXT {s : S3} {m : Mp} {k : List D → (Mp → Prop) → Mp → Prop} {x : X3} (h : iEnT R s m k x) : iEnX R s m k x := .inr h
end
end PV

/-! sorted(..) of a dict whose keys are texts. -/
namespace PV
open PySem L2 PyProof.Rows
section
variable {X : Cx} {cl : Cl} {W : WX}
def fSrtT (ds : List D) (m : Mp) (k : K3) : Prop := ∃ p, ds = [.ref p] ∧ ∃ (kvs : List (Key × D)) (ks : List Str), (m p = some (.dK kvs) ∨ m p = some (.rdK kvs)) ∧ kvs.map (·.1) = ks.map Sum.inr ∧ ks.length < 64 ∧
  ∀ (ys : List Str) (q : Addr), ys.Perm ks → sortedS ys = true → m q = none → k (.ref q) (mset m q (.lst (ys.map D.str)))
theorem reps_str {K : PySem.W.Frag} {H : Hp} : ∀ {ns : List Str}, Reps K H (ns.map D.str) (ns.map V.str)
  | [] => rfl
  | n :: ns => ⟨.str n, _, rfl, rfl, reps_str⟩
theorem q_srtT {p : Pos} {a : Expr} {rest : List Expr} {R : TA3} {pos : Pos} (hc : X.calm = true) (hg : Gl X "sorted") (hm : X.mg "sorted" = none) (ha : QA X cl W (a :: rest) R) (he : starEach (a :: rest) X.env = (false, eval a X.env) :: starEach rest X.env) (hpl : (backTo pos (starEach rest X.env)).any (·.1) = false) :
    QE X cl W (.Call (.Name "sorted" p) (a :: rest) [] pos) (eCB fSrtT R) :=
  q_cb (fun pins s σ H xs us Q I r q => call_sortedD hc pins s σ H xs us Q I r q) (fun H m ds vs Q r hm ⟨p, e, kvs, ks, h1, h3, h4, h2⟩ => by
    subst e
    obtain ⟨v, rfl, rv⟩ := reps1 r
    cases rv
    rcases h1 with h1 | h1
    · obtain ⟨kws, q1, q2⟩ := hm.1 p _ h1
      exact ⟨p, kws, ks, rfl, .inl q1, (repk_at q2).trans h3, h4, fun ys q g1 g2 g3 => h2 ys q g1 g2 (hm.free g3) _ _ rfl (new_lst hm g3 reps_str) (Ext.new g3)⟩
    · obtain ⟨o, kws, q1, q2⟩ := hm.1 p _ h1
      exact ⟨p, kws, ks, rfl, .inr ⟨o, q1⟩, (repk_at q2).trans h3, h4, fun ys q g1 g2 g3 => h2 ys q g1 g2 (hm.free g3) _ _ rfl (new_lst hm g3 reps_str) (Ext.new g3)⟩)
    (fun ds m k k' hk ⟨p, e, kvs, ks, h1, h3, h4, h2⟩ => ⟨p, e, kvs, ks, h1, h3, h4, fun ys q g1 g2 g3 => hk _ _ (h2 ys q g1 g2 g3)⟩) (by decide +kernel) (by decide) (by decide) hg hm ha he hpl
theorem xf_srtT {p : Addr} {kvs : List (Key × D)} {ks : List Str} {m : Mp} {k : K3} (h1 : m p = some (.dK kvs)) (h2 : kvs.map (·.1) = ks.map Sum.inr) (h3 : ks.length < 64) (h : ∀ (ys : List Str) (q : Addr), ys.Perm ks → sortedS ys = true → m q = none → k (.ref q) (mset m q (.lst (ys.map D.str)))) : fSrtT [.ref p] m k := ⟨p, rfl, kvs, ks, .inl h1, h2, h3, h⟩
end
end PV

/-! != of two lists that hold the same things; d.pop(k) of a dict whose keys are texts and numbers. -/
namespace PV
open PySem L2 PyProof.Rows
section
variable {X : Cx} {cl : Cl} {W : WX} {a b : Expr} {A B : TE3} {pos : Pos}
/-- one thing at two places -/
def OneI (K : PySem.W.Frag) (H : Hp) (v w : V) : Prop := (∃ a, v = .ref a ∧ w = .ref a) ∨ ∃ d : PyData, Dp K H v d ∧ Dp K H w d ∧ d.plain = true ∧ d.depth ≤ 60 ∧ PyData.eqv d d = true
def AllI2 (K : PySem.W.Frag) (H : Hp) : List V → List V → Prop
  | [], ws => ws = []
  | v :: vs, ws => ∃ w r, ws = w :: r ∧ OneI K H v w ∧ AllI2 K H vs r
def rNeI (K : PySem.W.Frag) : R2 := fun x y H Q => ∃ p q vs ws, x = .ref p ∧ y = .ref q ∧ SqL K H p vs ∧ SqL K H q ws ∧ AllI2 K H vs ws ∧ Q (.bl false) H
theorem allI2_at {pins : List (Addr × Obj)} {σ : L2.St} {H : Hp} {s : Shared} {A0 : Around} (I : Inv X pins σ H s) (hu : A0.units + 62 < cLine) : ∀ {vs ws : List V} {us ts : List Value}, AllI2 X.K H vs ws → Vals vs us → Vals ws ts →
    us.length = ts.length ∧ ∀ j (h1 : j < us.length) (h2 : j < ts.length), SeqAt.EqAt A0 s us[j] ts[j] true
  | [], _, _, _, h, r1, r2 => by
    cases h
    cases r1
    cases r2
    exact ⟨rfl, fun j h1 _ => absurd h1 (Nat.not_lt_zero _)⟩
  | v :: vs, _, _, _, h, r1, r2 => by
    obtain ⟨w, r, rfl, h1, h2⟩ := h
    cases r1 with
    | cons a1 a2 =>
    cases r2 with
    | cons b1 b2 =>
    obtain ⟨e, ih⟩ := allI2_at I hu h2 a2 b2
    refine ⟨by rw [List.length_cons, List.length_cons, e], fun j q1 q2 => ?_⟩
    cases j with
    | succ j => exact ih j (by simpa using q1) (by simpa using q2)
    | zero =>
      rcases h1 with ⟨c, rfl, rfl⟩ | ⟨d, d1, d2, d3, d4, d5⟩
      · cases a1
        cases b1
        exact SeqAt.EqAt.same _
      · obtain ⟨as, bs, g1, g2⟩ := reads_both I d1 d2 a1 b1
        have := SeqAt.eqAt_plain d d A0 s _ _ _ _ g1 g2 d3 d3 (by omega)
        rw [d5] at this
        exact this
theorem op_neI (hu : X.A.units + 64 < cLine) : OpR X (compareOp .NotEq) (rNeI X.K) := by
  rintro pins s σ H x y v u Q I rx ry ⟨p, q, vs, ws, ex, ey, h1, h2, h3, k⟩
  subst ex ey
  cases rx
  cases ry
  obtain ⟨i1, v1, l1, _⟩ := I.list h1
  obtain ⟨i2, v2, l2, _⟩ := I.list h2
  obtain ⟨e1, e2⟩ := allI2_at (A0 := X.A.in1) I (by show X.A.units + 1 + 62 < cLine; omega) h3 v1 v2
  have l1' : s.heap.IsList p i1.toArray := by obtain ⟨o, n, ho, hc, _, hd⟩ := l1; exact ⟨o, ho, hc, n, hd⟩
  have l2' : s.heap.IsList q i2.toArray := by obtain ⟨o, n, ho, hc, _, hd⟩ := l2; exact ⟨o, ho, hc, n, hd⟩
  refine SeqAt.RcNeAt.lists (e := fun _ => true) l1' l2' (by simpa using e1) (by omega) (fun j g1 g2 => by simpa using e2 j (by simpa using g1) (by simpa using g2)) X.prog X.w _ _ ?_
  have e : (List.range i1.toArray.size).all (fun _ => true) = true := by simp
  rw [e]
  exact ⟨.bl false, H, I, rfl, k⟩
/-- what is the same thing wherever it stands -/
def OneD (m : Mp) (d : D) : Prop := (∃ a, d = .ref a) ∨ ∃ e : PyData, DP m d e ∧ e.depth ≤ 60 ∧ PyData.eqv e e = true
def fNeI : D → D → Mp → K3 → Prop := fun u v m k => ∃ p q l, u = .ref p ∧ v = .ref q ∧ RL m p l ∧ RL m q l ∧ (∀ d ∈ l, OneD m d) ∧ k (.bl false) m
theorem mono_fNeI : MonoF fNeI := fun u v m k k' hk ⟨p, q, l, h1, h2, h3, h4, h5, h6⟩ => ⟨p, q, l, h1, h2, h3, h4, h5, hk _ _ h6⟩
theorem allI2_of {K : PySem.W.Frag} {H : Hp} {m : Mp} (hm : Ab K cl H m) : ∀ {l : List D} {vs ws : List V}, (∀ d ∈ l, OneD m d) → Reps K H l vs → Reps K H l ws → AllI2 K H vs ws
  | [], _, _, _, r1, r2 => by cases r1; cases r2; rfl
  | d :: l, _, _, h, r1, r2 => by
    obtain ⟨v, vs, rfl, a1, a2⟩ := r1
    obtain ⟨w, ws, rfl, b1, b2⟩ := r2
    refine ⟨w, ws, rfl, ?_, allI2_of hm (fun e he => h e (List.mem_cons_of_mem _ he)) a2 b2⟩
    rcases h d (List.mem_cons_self ..) with ⟨c, rfl⟩ | ⟨e, h1, h2, h3⟩
    · have a1' : v = .ref c := a1
      have b1' : w = .ref c := b1
      exact .inl ⟨c, a1', b1'⟩
    · exact .inr ⟨e, h1.dp hm a1, h1.dp hm b1, h1.plain, h2, h3⟩
theorem up_neI {H : Hp} {m : Mp} {u v : D} {x y : V} {Q : VK} (rx : Rep X.K H u x) (ry : Rep X.K H v y) (hm : Ab X.K cl H m) (h : fNeI u v m (cE X.K cl H Q)) : rNeI X.K x y H Q := by
  obtain ⟨p, q, l, e1, e2, h1, h2, h3, h4⟩ := h
  subst e1 e2
  have rx' : x = .ref p := rx
  have ry' : y = .ref q := ry
  obtain ⟨vs, g1, g2⟩ := hm.rl h1
  obtain ⟨ws, g3, g4⟩ := hm.rl h2
  exact ⟨p, q, vs, ws, rx', ry', g1, g3, allI2_of hm h3 g2 g4, h4 _ _ rfl hm (Ext.refl H)⟩
theorem q_neI (hu : X.A.units + 64 < cLine) (ha : QE X cl W a A) (hb : QE X cl W b B) : QE X cl W (.Compare a [.NotEq] [b] pos) (eBin fNeI A B) :=
  q_cmp (op_neI hu) (fun _ _ _ _ _ _ _ rx ry hm h => up_neI rx ry hm h) mono_fNeI ha hb (nomark _)
theorem t_neI (hu : X.A.units + 64 < cLine) (ha : QE X cl W a A) (hb : QE X cl W b B) : QT X cl W (.Compare a [.NotEq] [b] pos) (tBv (eBin fNeI A B)) :=
  t_cmp (op_neI hu) (fun _ _ _ _ _ _ _ rx ry hm h => up_neI rx ry hm h) mono_fNeI ha hb (nomark _)
theorem xf_neOne {p q : Addr} {l : List D} {m : Mp} {k : K3} (h1 : RL m p l) (h2 : RL m q l) (h3 : ∀ d ∈ l, OneD m d) (h : k (.bl false) m) : fNeI (.ref p) (.ref q) m k := ⟨p, q, l, rfl, rfl, h1, h2, h3, h⟩
end
/-! ### pop of a key -/
def dropD (kvs : List (Key × D)) (k : Key) : List (Key × D) := kvs.filter fun kv => decide (kv.1 ≠ k)
theorem RepK.drop {K : PySem.W.Frag} {H : Hp} {k : Key} : ∀ {ds : List (Key × D)} {vs : List (Key × V)}, RepK K H ds vs → RepK K H (dropD ds k) (dropK vs k)
  | [], _, h => by cases h; rfl
  | (j, d) :: ds, _, h => by
    obtain ⟨v, r, rfl, h2, h3⟩ := h
    have ih := RepK.drop (k := k) h3
    unfold dropD dropK at ih ⊢
    rw [List.filter_cons, List.filter_cons]
    by_cases e : j = k
    · rw [if_neg (by simpa using e), if_neg (by simpa using e)]
      exact ih
    · rw [if_pos (by simpa using e), if_pos (by simpa using e)]
      exact ⟨v, _, rfl, h2, ih⟩
theorem getD_drop {k j : Key} : ∀ {kvs : List (Key × D)}, getD (dropD kvs k) j = if j = k then none else getD kvs j
  | [] => by show none = _; split <;> rfl
  | p :: kvs => by
    have ih := getD_drop (k := k) (j := j) (kvs := kvs)
    unfold dropD at ih ⊢
    rw [List.filter_cons]
    by_cases e : p.1 = k
    · rw [if_neg (by simpa using e), ih]
      by_cases ej : j = k
      · rw [if_pos ej, if_pos ej]
      · rw [if_neg ej, if_neg ej, getD_neg (fun z => ej (z.symm.trans e))]
    · rw [if_pos (by simpa using e)]
      by_cases epj : p.1 = j
      · rw [getD_pos epj, getD_pos epj, if_neg (fun z => e (epj.trans z))]
      · rw [getD_neg epj, getD_neg epj, ih]
section
variable {X : Cx} {cl : Cl}
def fPopK (o : D) (ds : List D) (m : Mp) (k : K3) : Prop := ∃ q kvs y d, o = .ref q ∧ ds = [keyD y] ∧ m q = some (.dK kvs) ∧ getD kvs y = some d ∧ k d (mset m q (.dK (dropD kvs y)))
def rPopK : V → List V → Hp → VK → Prop := fun x vs H Q => ∃ a kvs y v, x = .ref a ∧ vs = [kV y] ∧ H a = some (.dK kvs) ∧ valV kvs y = some v ∧ Q v (upd H a (.dK (dropK kvs y)))
theorem mt_popK : MtM X "dict.pop" rPopK := by
  intro pins s σ H x vs v us Q I rx rv ⟨a, kvs, y, v0, ex, ev, h1, h2, q⟩
  subst ex ev
  cases rx
  obtain ⟨u, rfl, ru⟩ := vals1 rv
  exact d_pop I h1 ru h2 (.inl rfl) fun w' s' J r => ⟨v0, _, J, r, q⟩
theorem up_popK : UpM X cl fPopK rPopK := fun H m o v ds vs Q r1 r2 hm ⟨q, kvs, y, d, e1, e2, h1, h2, h⟩ => by
  subst e1 e2
  have r' : v = .ref q := r1
  subst r'
  obtain ⟨u, rfl, ru⟩ := reps1 r2
  have ru' := rep_key ru
  subst ru'
  obtain ⟨kws, q1, q2⟩ := hm.1 q _ h1
  obtain ⟨w, e1, e2⟩ := q2.some h2
  have ex := ext_dK (u := .dK (dropK kws y)) q1
  exact ⟨q, kws, y, w, rfl, rfl, q1, e1, h _ _ (e2.mono ex) (hm.put ex ⟨_, upd_same, q2.drop.mono ex⟩) ex⟩
theorem mono_popK : MonoM fPopK := fun o ds m k k' hk ⟨q, kvs, y, d, e1, e2, h1, h2, h⟩ => ⟨q, kvs, y, d, e1, e2, h1, h2, hk _ _ h⟩
theorem xf_popK {q : Addr} {kvs : List (Key × D)} {y : Key} {i d : D} {m : Mp} {k : K3} (hi : i = keyD y) (h1 : m q = some (.dK kvs)) (h2 : getD kvs y = some d) (h : k d (mset m q (.dK (dropD kvs y)))) : fPopK (.ref q) [i] m k := by
  subst hi
  exact ⟨q, kvs, y, d, rfl, rfl, h1, h2, h⟩
end
/-! ### count of a truth in a list of truths -/
section
variable {X : Cx} {cl : Cl}
def rCntB (K : PySem.W.Frag) : V → List V → Hp → VK → Prop := fun x xs H Q => ∃ (a : Addr) (y : V) (d : PyData) (ds : List PyData) (vs : List V), x = V.ref a ∧ xs = [y] ∧ SqL K H a vs ∧ DpAll K H vs ds ∧ Dp K H y d ∧ PyData.plainAll ds = true ∧ d.plain = true ∧ d.depth ≤ 60 ∧ Q (.int ((ds.countP fun z => PyData.eqv z d : Nat) : Int)) H
theorem mt_cntB (hu : X.A.units + 65 < cLine) : MtM X "list.count" (rCntB X.K) := by
  intro pins s σ H x xs v us Q I rx rxs ⟨a, y, d, ds, vs, ex, exs, hl, ha, hy, p1, p2, p3, q⟩
  subst ex exs
  cases rx
  obtain ⟨u, rfl, ru⟩ := vals1 rxs
  obtain ⟨bs, r1⟩ := Dp.reads I d y u hy ru
  obtain ⟨its, rv, ⟨o, n, ho, hc, _, hd⟩, _⟩ := I.list hl
  obtain ⟨as, r2⟩ := Dp.readsAll I ds _ its ha rv
  refine SeqAt.count_list_data (vs := its.toArray) ⟨o, ho, hc, n, hd⟩ r2 r1 p1 p2 (by omega) ?_
  exact ⟨.int _, H, I.tok _, ⟨_, rfl⟩, q⟩
def fCntB (o : D) (ds : List D) (m : Mp) (k : K3) : Prop := ∃ p, ∃ bs : List Bool, ∃ b : Bool, o = .ref p ∧ ds = [.bl b] ∧ RL m p (bs.map D.bl) ∧ k (.int (bs.count b : Nat)) m
theorem dps_bl {m : Mp} : ∀ {bs : List Bool}, DPs m (bs.map D.bl) (bs.map PyData.bool)
  | [] => .nil
  | b :: _ => .cons (.bl b) dps_bl
theorem cnt_bl {b : Bool} : ∀ {bs : List Bool}, ((bs.map PyData.bool).countP fun z => PyData.eqv z (.bool b)) = bs.count b
  | [] => rfl
  | c :: bs => by
    rw [List.map_cons, List.countP_cons, cnt_bl, List.count_cons]
    cases b <;> cases c <;> rfl
theorem up_cntB : UpM X cl fCntB (rCntB X.K) := fun H m o v ds vs Q r1 r2 hm ⟨p, bs, b, e1, e2, h1, h⟩ => by
  subst e1 e2
  have r' : v = .ref p := r1
  subst r'
  obtain ⟨u, rfl, ru⟩ := reps1 r2
  have ru' : u = .bl b := ru
  subst ru'
  obtain ⟨ws, q1, q2⟩ := hm.rl h1
  refine ⟨p, .bl b, .bool b, bs.map PyData.bool, ws, rfl, rfl, q1, dps_bl.dp hm q2, .bl b, dps_bl (m := m).plain, rfl, Nat.zero_le _, ?_⟩
  rw [cnt_bl]
  exact h _ _ rfl hm (Ext.refl H)
theorem mono_cntB : MonoM fCntB := fun o ds m k k' hk ⟨p, bs, b, e1, e2, h1, h⟩ => ⟨p, bs, b, e1, e2, h1, hk _ _ h⟩
theorem xf_cntB {p : Addr} {bs : List Bool} {b : Bool} {m : Mp} {k : K3} (h1 : RL m p (bs.map D.bl)) (h : k (.int (bs.count b : Nat)) m) : fCntB (.ref p) [.bl b] m k := ⟨p, bs, b, rfl, rfl, h1, h⟩
end
/-! ### index of a truth in a list of truths -/
section
variable {X : Cx} {cl : Cl}
def fIdxB (o : D) (ds : List D) (m : Mp) (k : K3) : Prop := ∃ (p : Addr) (bs : List Bool) (b : Bool) (j : Nat), o = .ref p ∧ m p = some (.lst (bs.map D.bl)) ∧ ds = [.bl b] ∧ bs[j]? = some b ∧ (∀ n, n < j → bs[n]? ≠ some b) ∧ k (.int (j : Nat)) m
theorem mono_idxB : MonoM fIdxB := fun o ds m k k' hk ⟨p, bs, b, j, a1, a2, a3, a4, a5, q⟩ => ⟨p, bs, b, j, a1, a2, a3, a4, a5, hk _ _ q⟩
theorem bls_lay : ∀ bs : List Bool, PyData.canLayAll0 (bs.map PyData.bool) = true ∧ PyData.depthAll (bs.map PyData.bool) = 0
  | [] => ⟨rfl, rfl⟩
  | b :: bs => by
    obtain ⟨h1, h2⟩ := bls_lay bs
    constructor
    · show (PyData.canLay0 (.bool b) && PyData.canLayAll0 (bs.map PyData.bool)) = true
      rw [h1]; rfl
    · show max (PyData.depth (.bool b)) (PyData.depthAll (bs.map PyData.bool)) = 0
      rw [h2]; rfl
theorem up_idxB : UpM X cl fIdxB (rIndexD X.K) := fun H m o v ds vs Q r1 r2 hm ⟨p, bs, b, j, e1, e2, e3, e4, e5, q⟩ => by
  subst e1 e3
  have r' : v = .ref p := r1
  subst r'
  obtain ⟨u, rfl, ru⟩ := reps1 r2
  obtain ⟨c1, c2⟩ := bls_lay bs
  refine ⟨p, u, .bool b, bs.map .bool, j, .bool b, rfl, rfl, (DP.lst (.inl e2) dps_bl).dp hm r1, (DP.bl (m := m) b).dp hm ru, ?_, rfl, by rw [List.getElem?_map, e4]; rfl, by cases b <;> rfl, fun n z hn hz => ?_, q _ _ rfl hm (Ext.refl H)⟩
  · unfold SeqAt.shaped
    rw [Bool.and_eq_true, decide_eq_true_eq]
    exact ⟨c1, by show PyData.depthAll (bs.map PyData.bool) + 1 ≤ 64; rw [c2]; decide⟩
  · rw [List.getElem?_map] at hz
    cases e : bs[n]? with
    | none => rw [e] at hz; cases hz
    | some y =>
      rw [e] at hz
      cases hz
      have : y ≠ b := fun w => e5 n hn (by rw [e, w])
      revert this
      cases y <;> cases b <;> decide
end
theorem xf_idxB {p : Addr} {bs : List Bool} {b : Bool} {j : Nat} {m : Mp} {k : K3} (h1 : m p = some (.lst (bs.map D.bl))) (h2 : bs[j]? = some b) (h3 : ∀ n, n < j → bs[n]? ≠ some b) (h : k (.int (j : Nat)) m) : fIdxB (.ref p) [.bl b] m k := ⟨p, bs, b, j, rfl, h1, rfl, h2, h3, h⟩
end PV

/-! except (C1, C2) as n. -/
namespace PV
open PySem L2 PyProof.Rows
section
variable {X : Cx} {W : WX} {cl : Cl}
/-- except (C1, C2) as n: -/
theorem clauses_twoAs {n1 n2 y : Str} {c1 c2 : Value} {i : Nat} {ts : Addr → Value → Option Addr → TS} {b0 : Stmt} {suite : List Stmt} {p1 p2 tp hp : Pos} {kk : Nat} {rest : List ExceptHandler} {w : Ends → WX} (hst : X.stack = X.env :: X.outer) (hef : X.env.frame = some X.env.locals) (hx : X.ex = []) (hN : X.N.Nodup) (hi : X.N[i]? = some y) (hy : X.env.kindOf y = some .local)
    (h1 : Names X n1 c1) (h2 : Names X n2 c2) (hsu : ∀ (a : Addr) (cls : Value) (d : Option Addr) (pn : List (Addr × Obj)), PSs (X.suite a pn) (b0 :: suite) (ts a cls d)) (r : Clauses X rest w) :
    Clauses X (.ExceptHandler (some (.Tuple [.Name n1 p1, .Name n2 p2] kk tp)) (some y) (b0 :: suite) hp :: rest) fun D cls d σ H => ∃ b, PySem.W.exmAny X.K cls [c1, c2] = some b ∧ (b = true → ∀ a, H a = none → ts a cls d (endI i D) (σ.set i (some (.ref a))) (upd H a (exoH cls d a))) ∧ (b = false → w D cls d σ H) := by
  rintro pins σ H a cls d B sI s D L ⟨b, eb, yes, no⟩
  obtain ⟨oe, vs, g, z, e⟩ := L.obj
  have type : PySem.W.Looks (model X.prog X.w) s.heap (typeOf (.ref a)) cls := fun A Q E s' k q => wpAny_typeOf_ref (k _ _ g) (by rw [z.1]; exact q)
  refine wpAny_handleBy_cons (codeAny_handlers_test (wpAny_Tuple (wpAny_items_cons (name_read L hst hef hx h1 (wpAny_items_cons (name_read L hst hef hx h2 (wpAny_items_nil ⟨by size_fits, ?_⟩))))))) (fun q => nomatch q)
  have up : ∀ b o, s.heap.get? b = some o → (s.heap.push { cls := .type "tuple", data := .seq [c1, c2].toArray }).get? b = some o := fun _ _ => Heap.get?_push_of_some _
  have L5 := L.more up
  refine (PySem.W.exm_tup2 (M := model X.prog X.w) L5.state.kIn (type.keeps up) (Heap.get?_push_size s.heap rfl) eb).here ?_
  generalize s.heap.push { cls := .type "tuple", data := .seq [c1, c2].toArray } = h5 at *
  cases b with
  | false => exact r pins σ H a cls d B sI _ D L5 (no rfl)
  | true =>
    refine codeAny_handlers_suite_as (HandSPX.lands_againZ L5.fly fun h fl up6 => ?_)
    have L6 : Landed X pins σ H a cls d B sI { s with heap := h } := { L with slots := L5.slots.trans up6, fly := fl }
    refine store_ok (X := X.suite a (X.pn ++ pins)) (v := V.ref a) (L6.tracked hst hef hx) hN hi (.inl hy) rfl (fun s5 J5 => ?_) (.inr hy)
    refine wpAny_mono ((hsu a cls d (X.pn ++ pins)).run [] _ _ _ (endI i D) J5 (yes rfl a L.free)) (fun f s' q => ?_) fun _ _ q => q.elim
    have gone : ∀ {σ' : L2.St} {H' : Hp} {R : Shared → Prop}, Inv X pins σ' H' s' → (∀ s7, Inv X pins (σ'.set i none) H' s7 → R s7) → wpAny (model X.prog X.w) X.A (do bindName X.env y .none; unbindBehindTheSuite X.env y hp) (fun _ s7 => R s7) X.xe s' := fun J q => gone_ok J hN hi hy q
    have q := suite_end L.inv.ok q
    cases f with
    | ret u => obtain ⟨v, σ', H', J, rv, k⟩ := q; exact gone J fun s7 J7 => ⟨v, _, H', J7, rv, k⟩
    | next => obtain ⟨σ', H', J, k⟩ := q; exact gone J fun s7 J7 => ⟨_, H', J7, k⟩
    | brk => obtain ⟨σ', H', J, k⟩ := q; exact gone J fun s7 J7 => ⟨_, H', J7, k⟩
    | cont => obtain ⟨σ', H', J, k⟩ := q; exact gone J fun s7 J7 => ⟨_, H', J7, k⟩
/-- one suite for several classes -/
abbrev same2 (n1 n2 : String) (i : Nat) (S : TS3) : List Hd3 := [(n1, some i, S), (n2, some i, S)]
theorem qs_try2 {body : List Stmt} {n1 n2 : String} {x1 x2 y : Str} {i : Nat} {S B : TS3} {b₀ : Stmt} {suite : List Stmt} {p1 p2 tp pos' pos : Pos} {kk : Nat} (EK : ExK X.K X.mg cl) (hs : X.stack = X.env :: X.outer) (hf : X.env.frame = some X.env.locals) (hex : X.ex = []) (hN : X.N.Nodup) (tk : Takes X W) (pw : PassesOwn (model X.prog X.w) X.A X.env X.xe)
    (hb : ∀ (W : WX) (pn : List (Addr × Obj)) (xe : Value → Shared → Prop), Takes (X.tr pn xe) W → PassesOwn (model X.prog X.w) X.A X.env xe → QB (X.tr pn xe) cl W body B)
    (hn1 : n1 ∈ eNames) (hc1 : ∃ a, cl n1 = some a) (hx1 : x1 = Str.ofString n1) (hg1 : Gl X x1) (hd1 : (x1 == ("__debug__" : Str)) = false)
    (hn2 : n2 ∈ eNames) (hc2 : ∃ a, cl n2 = some a) (hx2 : x2 = Str.ofString n2) (hg2 : Gl X x2) (hd2 : (x2 == ("__debug__" : Str)) = false)
    (hi : X.N[i]? = some y) (hln : X.env.kindOf y = some .local) (hsu : ∀ (a : Addr) (pn : List (Addr × Obj)), QB (X.suite a pn) cl W0 (b₀ :: suite) S) :
    QS X cl W (.Try body [.ExceptHandler (some (.Tuple [.Name x1 p1, .Name x2 p2] kk tp)) (some y) (b₀ :: suite) pos'] [] [] pos) (sTry B (same2 n1 n2 i S)) := by
  have mS : MonoS S := (hsu 0 []).mono
  obtain ⟨a1, e1⟩ := hc1
  obtain ⟨a2, e2⟩ := hc2
  have k1 := clauses_twoAs (X := X) (ts := fun _ _ _ => upS X.K cl W0 S) hs hf hex hN hi hln (p1 := p1) (p2 := p2) (tp := tp) (hp := pos') (kk := kk) ⟨hg1, hd1, .inl (hx1 ▸ EK.at_ n1 hn1 a1 e1)⟩ ⟨hg2, hd2, .inl (hx2 ▸ EK.at_ n2 hn2 a2 e2)⟩ (fun a cls d pn => (hsu a pn).run) (clauses_none hs hf tk)
  obtain ⟨w, k1, k2⟩ : ∃ w, Clauses X [.ExceptHandler (some (.Tuple [.Name x1 p1, .Name x2 p2] kk tp)) (some y) (b₀ :: suite) pos'] w ∧ Meets X cl W (same2 n1 n2 i S) w := ⟨_, k1, fun D H s x m h σ c dd H' hs rx hm e => by
    obtain ⟨yes1, no1⟩ := dsp_c h
    obtain ⟨C, hC, hc, rfl, rfl⟩ := id rx
    have f1 := (EK.sub x.cls hC C hc n1 hn1 a1 e1).2
    have f2 := (EK.sub x.cls hC C hc n2 hn2 a2 e2).2
    refine ⟨subX x.cls n1 || (subX x.cls n2 || false), by simp only [PySem.W.exmAny, f1, f2], fun q a ha => ?_, fun q => ?_⟩
    · cases q1 : subX x.cls n1 with
      | true => exact meets_suite (sl := some i) mS hs rx hm e ha (yes1 q1)
      | false =>
        obtain ⟨yes2, no2⟩ := dsp_c (no1 q1)
        cases q2 : subX x.cls n2 with
        | true => exact meets_suite (sl := some i) mS hs rx hm e ha (yes2 q2)
        | false => rw [q1, q2] at q; cases q
    · simp only [Bool.or_eq_false_iff] at q
      obtain ⟨q1, q2, _⟩ := q
      exact (dsp_c (no1 q1)).2 q2 σ _ _ H' hs rx hm e⟩
  have mB : MonoS B := (hb (fun _ _ _ _ => False) X.pn X.xe takes_none5 pw).mono
  have mono : ∀ {D D' : N3}, N3.Le D D' → ∀ s x m, dsp (same2 n1 n2 i S) D s x m → dsp (same2 n1 n2 i S) D' s x m := fun l => mono_same mS l [n1, n2]
  refine ⟨fun s m D D' le q => mB s m { D with ex := dsp (same2 n1 n2 i S) D } { D' with ex := dsp (same2 n1 n2 i S) D' } ⟨le.nx, le.rt, le.bk, le.ct, mono le⟩ q, ?_⟩
  refine PS.imp (try_clauses (tb := fun W => upS X.K cl W B) hs hf (fun W pn xe t p => (hb W pn xe t p).run) k1) fun D σ H ⟨s, m, h1, h2, q⟩ => ⟨s, m, h1, h2, ?_⟩
  exact mB s m { (cN X.K cl W H D) with ex := dsp (same2 n1 n2 i S) (cN X.K cl W H D) } (cN X.K cl (w D) H D) ⟨fun _ _ h => h, fun _ _ h => h, fun _ _ h => h, fun _ _ h => h, fun s x m h σ c dd H' a b e f => k2 D H s x m h σ c dd H' a b e f⟩ q
end
end PV

/-! [a call that may raise for x, y in ..]. -/
namespace PV
open PySem L2 PyProof.Rows
def eLcG2 (T : TI3) (i i' : Nat) (B : TE3) : TE3 := fun s m k x => T s m (fun l R m1 => ∃ P : List D → Mp → Prop, P [] m1 ∧ (∀ acc m, acc.length ≤ l.length → P acc m → R m) ∧
  (∀ acc d m, l[acc.length]? = some d → P acc m → ∃ u v, d = .tup [u, v] ∧ B ((s.set i (some u)).set i' (some v)) m (fun y m4 => P (acc ++ [y]) m4) x) ∧
  ∀ acc m, acc.length = l.length → P acc m → ∀ q, m q = none → k (.ref q) (mset m q (.lst acc))) x
theorem mono_lcG2 {T : TI3} {B : TE3} {i i' : Nat} (ha : MonoI T) (hb : MonoE B) : MonoE (eLcG2 T i i' B) := fun s m k k' x x' hk hx h =>
  ha _ _ _ _ _ _ (fun l R m1 ⟨P, a, b, c, d⟩ => ⟨P, a, b, (fun acc d m q z => (c acc d m q z).elim fun u w => w.elim fun v w => ⟨u, v, w.1, hb _ _ _ _ _ _ (fun _ _ h => h) hx w.2⟩), fun acc m q z w hw => hk _ _ (d acc m q z w hw)⟩) hx h
theorem x_lcG2 {T : TI3} {B : TE3} {i i' : Nat} {s : S3} {m : Mp} {k : K3} {x : X3} (h : T s m (fun l R m1 => ∃ P : List D → Mp → Prop, P [] m1 ∧ (∀ acc m, acc.length ≤ l.length → P acc m → R m) ∧
  (∀ acc d m, l[acc.length]? = some d → P acc m → ∃ u v, d = .tup [u, v] ∧ B ((s.set i (some u)).set i' (some v)) m (fun y m4 => P (acc ++ [y]) m4) x) ∧
  ∀ acc m, acc.length = l.length → P acc m → ∀ q, m q = none → k (.ref q) (mset m q (.lst acc))) x) : eLcG2 T i i' B s m k x := h
section
variable {X : Cx} {cl : Cl} {W : WX} {B : TE3} {i i' : Nat} {x x' : Str} {a e : Expr} {scope : Scope} {p1 p2 p3 pos : Pos} {tk0 : Nat}
/-- the names of the block are found -/
theorem blk_clos2 {pins : List (Addr × Obj)} {σ : L2.St} {H : Hp} {s : Shared} (I : Inv X pins σ H s) (ok : BlkOk X.N X.env.scope scope [(x, i), (x', i')]) : closureFor scope X.env = pure (cloFrom X.env.cells scope.names []) :=
  closure_ok fun y m q => (ok.free y m q).elim (fun z => I.ok.has _ (.inl z)) fun z => I.ok.has _ (.inr z)
/-- the turns of a comprehension whose element may raise: what is told so far is no part of the memory till the end -/
theorem lc_turns2 (hne : i ≠ i') {pins : List (Addr × Obj)} {σ : L2.St} {H1 : Hp} {s2 : Shared} {it : Addr} {fp : List Addr} {l : List D} {R : Mp → Prop} {Y : Nat → Value → Heap → Prop} {St : Nat → Heap → Prop} {sl : S3} {m1 : Mp} {P : List D → Mp → Prop} {use : Option (Value → Sem Unit)} {Q : Value → Shared → Prop}
    (tk : Takes X W) (hst : X.stack = X.env :: X.outer) (hef : X.env.frame = some X.env.locals) (hN : X.N.Nodup) (ok : BlkOk X.N X.env.scope scope [(x, i), (x', i')]) (hcell : ∀ z ∈ scope.names, z.2 ≠ .cell)
    (hg : ∀ (s : Shared) (H : Hp) (C : Addr) (cz : List (Str × Addr)) (fp : List Addr) (xe : Value → Shared → Prop), PG (blkX X s H scope (compEnvC scope cz C X.env) fp xe) (.Tuple [.Name x p1, .Name x' p2] tk0 p3) (gTup X.K 2 (gCons (gName i) (gCons (gName i') gNil))))
    (hb : ∀ (s : Shared) (H : Hp) (C : Addr) (cz : List (Str × Addr)) (fp : List Addr) (xe : Value → Shared → Prop) (σ : L2.St), Takes (blkX X s H scope (compEnvC scope cz C X.env) fp xe) (wAt W σ) → QE (blkX X s H scope (compEnvC scope cz C X.env) fp xe) cl (wAt W σ) e B)
    (I2 : Inv X pins σ H1 s2) (src : Src X cl (.Tuple [.Name x p1, .Name x' p2] tk0 p3) it fp l R H1 Y St) (st0 : St 0 s2.heap) (low : ∀ b ∈ fp, b < s2.heap.objs.size) (fit : FpOk X pins H1 it) (lim : l.length ≤ sizeLine) (hs0 : RepS X.K H1 sl σ) (hm1 : Ab X.K cl H1 m1)
    (P0 : P [] m1) (PR : ∀ acc m, acc.length ≤ l.length → P acc m → R m) (Pstep : ∀ acc d m, l[acc.length]? = some d → P acc m → ∃ u v, d = .tup [u, v] ∧ B ((sl.set i (some u)).set i' (some v)) m (fun y m4 => P (acc ++ [y]) m4) (cX X.K cl W H1 σ))
    (fin : ∀ (q : Addr) (ce : Env) (s : Shared) (H' : Hp) (acc : List D) (m : Mp), Inv X pins σ H' s → FpOk X pins H' ce.locals → (∃ mC, s.heap.Ns ce.locals mC) → Ab X.K cl H' (mset m q (.lst acc)) → Ext H1 H' → acc.length = l.length → P acc m → m q = none → compEnds (model X.prog X.w) X.A X.xe use Q (.ref q) ce (.ok .next) s) :
    LcGoes X.prog X.w X.A X.xe X.env scope (cloFrom X.env.cells scope.names []) (.Tuple [.Name x p1, .Name x' p2] tk0 p3) [] e use Q (.ref it) s2 := by
  obtain ⟨oI, itAt, itOk⟩ := src.obj 0 _ st0
  have itLt := Heap.lt_size itAt
  refine ⟨it, fp, [it], l.length, Y, St, rfl, src.goes, lim, st0, low, fun D C s3 hbeg => ?_⟩
  have nD := hbeg.newD
  have nC := hbeg.newC
  have neDC := hbeg.ne
  have fitS : ∀ b ∈ [it], FpOk X pins H1 b ∧ b < s2.heap.objs.size := fun b hb => by rw [List.mem_singleton.mp hb]; exact ⟨fit, itLt⟩
  obtain ⟨xb, hxb⟩ : ∃ xb, xb = notedBy (model X.prog X.w) X.A (compEnvC scope (cloFrom X.env.cells scope.names []) C X.env) (CompFails (model X.prog X.w) X.A X.xe (compEnvC scope (cloFrom X.env.cells scope.names []) C X.env)) := ⟨_, rfl⟩
  have start := blk_begins (xe := xb) I2 ok hN hcell hbeg fitS
  have grd : ∀ b ∈ [D, it], FpOk X pins H1 b := fun b hb => by
    rcases in_two hb with rfl | rfl
    · exact I2.fpOk nD (I2.hok.fresh nD)
    · exact fit
  have pg := hg s2 H1 C (cloFrom X.env.cells scope.names []) [D, it] xb
  have pe := hb s2 H1 C (cloFrom X.env.cells scope.names []) [D, it] xb σ fun u s' z => by
    rw [hxb]; exact comp_out (cenv := compEnvC scope (cloFrom X.env.cells scope.names []) C X.env) hst hef tk I2 grd nC rfl z
  have eL : (compEnvC scope (cloFrom X.env.cells scope.names []) C X.env).locals = C := rfl
  generalize compEnvC scope (cloFrom X.env.cells scope.names []) C X.env = ce at *
  have free0 : ∀ b ∈ [D, it], H1 b = none := fun b hb => (grd b hb).1
  -- what stands between two turns: what is told so far is acc
  refine ⟨fun k ys s => ∃ H' m acc us, Inv (blkX X s2 H1 scope ce [D, it] xb) [] (wipe σ [i, i']) H' s ∧ (∀ b ∈ [D, it], H' b = none) ∧ Ab X.K cl H' m ∧ Ext H1 H' ∧ P acc m ∧ acc.length = k ∧ Reps X.K H' acc us ∧ Vals us ys,
    ⟨H1, m1, [], [], start, free0, hm1, Ext.refl _, P0, rfl, rfl, .nil⟩, ?keep, ?turn, ?fin⟩
  case keep =>
    rintro k ys s h' tks ⟨H', m, acc, us, J, n0, rest⟩ same -
    refine ⟨H', m, acc, us, J.turnedL (ch := [D, it]) same fun b hb => ?_, n0, rest⟩
    exact ⟨n0 b hb, (J.ok.exf b hb).1, J.ok.exfs b hb, .inl hb, (J.ok.exf b hb).2, fun q m => absurd m (by simp)⟩
  case turn =>
    rintro k v ys s hk yv st ⟨H', m, acc, us, J, n0, hm, ext, Pm, rfl, ra, va⟩ pld
    have fpo : ∀ b ∈ [D, it], FpOk (blkX X s2 H1 scope ce [D, it] xb) [] H' b := fun b hb => ⟨n0 b hb, (J.ok.exf b hb).1, J.ok.exfs b hb, .inl hb, (J.ok.exf b hb).2, fun q m => absurd m (by simp)⟩
    obtain ⟨nPl, plD⟩ := id pld
    obtain ⟨oT, gT, kT⟩ := src.obj _ _ st
    have pinned := J.pinned fpo fun b hb => by
      rcases in_two hb with rfl | rfl
      · exact ⟨_, plD, fun _ z => by cases z⟩
      · exact ⟨_, gT, kT⟩
    have hd := List.getElem?_eq_getElem hk
    obtain ⟨u, ru, rv⟩ := src.item (blkX X s2 H1 scope ce [D, it] xb) _ _ _ _ m _ v _ rfl J hm ext (PR acc m (Nat.le_of_lt hk) Pm) hd yv
    have raise : ∀ u s', xb u s' → notedBy (model X.prog X.w) X.A ce (CompFails (model X.prog X.w) X.A X.xe ce) u s' := fun u s' z => by rw [hxb] at z; exact z
    obtain ⟨du, dv, ed, Pst⟩ := Pstep acc _ m hd Pm
    rw [ed] at ru
    obtain ⟨qt, us2, rfl, qt1, qt2⟩ := ru
    obtain ⟨x1, x2, rfl, r1, r2⟩ := reps2 qt2
    refine wpAny_mono (pg.run _ s (wipe σ [i, i']) H' (.ref qt) v (fun σ2 H2 => σ2 = ((wipe σ [i, i']).set i (some x1)).set i' (some x2) ∧ H2 = H') pinned rv ⟨qt, [x1, x2], rfl, qt1, rfl, x1, [x2], rfl, x2, [], rfl, rfl, rfl, rfl⟩) (fun _ s4 ⟨σ4, H4, J4, e4, e5⟩ => ?_) raise
    have e5 := e5.symm
    subst e4 e5
    refine wpAny_tests_nil ?_
    rw [if_pos rfl]
    have hsl : RepS X.K H' ((sl.set i (some du)).set i' (some dv)) (((wipe σ [i, i']).set i (some x1)).set i' (some x2)) := by
      have hw : ((wipe σ [i, i']).set i (some x1)).set i' (some x2) = (σ.set i (some x1)).set i' (some x2) := by
        simp only [wipe, List.set_set]
        rw [List.set_comm (some x1) (some x2) hne]
        rw [List.set_comm (some x1) (some x2) hne]
        simp only [List.set_set]
      rw [hw]
      exact ((hs0.mono ext).set r1 i).set r2 i'
    have way := pe.mono _ _ _ _ _ (cX X.K cl (wAt W σ) H' (((wipe σ [i, i']).set i (some x1)).set i' (some x2))) (fun y m6 q z H6 r hm6 e6 => (⟨y, m6, r, hm6, e6, q⟩ : ∃ y m6, Rep X.K H6 y z ∧ Ab X.K cl H6 m6 ∧ Ext H' H6 ∧ P (acc ++ [y]) m6)) (fun ex m6 q c dd H6 r hm6 e6 => q c dd H6 r hm6 (ext.trans e6)) Pst
    refine wpAny_mono (pe.run.run _ s4 _ H' (fun z H6 => ∃ y m6, Rep X.K H6 y z ∧ Ab X.K cl H6 m6 ∧ Ext H' H6 ∧ P (acc ++ [y]) m6) J4 ⟨_, m, hsl, hm, way⟩) (fun w s6 ⟨z, H6, J6, rz, y, m6, ry, hm6, e6, P6⟩ => ?_) raise
    have stay : ∀ b ∈ [D, it], ∀ o, s.heap.get? b = some o → s6.heap.get? b = some o ∧ H6 b = none := fun b hb o q => by
      obtain ⟨q1, q2, -⟩ := J6.pin (b, o) (List.mem_append_right _ (List.mem_append_right _ (mem_pinsAt hb q)))
      exact ⟨q1, q2⟩
    have len : (acc ++ [y]).length = acc.length + 1 := by simp
    refine ⟨⟨H6, m6, acc ++ [y], us ++ [z], J6.unpinned.weak ?_ ?_, fun b hb => ?_, hm6, ext.trans e6, P6, len, (ra.mono e6).append (.one ry), va.append (.cons rz .nil)⟩, ?_, ⟨nPl, (stay D (by simp) _ plD).1⟩⟩
    · rw [List.length_set, List.length_set]
    · intro j c q
      have n1 : j ≠ i := fun z => (wipe_some (vs := [i, i']) q).2 (by simp [z])
      have n2 : j ≠ i' := fun z => (wipe_some (vs := [i, i']) q).2 (by simp [z])
      rw [List.getElem?_set_ne n2.symm, List.getElem?_set_ne n1.symm]; exact q
    · rcases in_two hb with rfl | rfl
      · exact (stay _ (by simp) _ plD).2
      · exact (stay _ (by simp) _ gT).2
    · exact src.again (blkX X s2 H1 scope ce [D, it] xb) _ _ _ _ m6 _ _ rfl J6 hm6 (ext.trans e6) (PR _ _ (by rw [len]; exact hk) P6) st fun o q => (stay it (by simp) o q).1
  case fin =>
    rintro ys s ⟨H', m, acc, us, J, n0, hm, ext, Pm, el, ra, va⟩ ⟨cD, plD⟩
    have J0 : Inv X pins σ H' s := I2.call' (ch := [D, it]) J.os J.base J.hok J.bare fun b hb => ⟨(grd b hb).2.2.2.1, (grd b hb).2.1, (grd b hb).2.2.2.2.1, (grd b hb).2.2.2.2.2⟩
    have fD : FpOk X pins H' D := I2.fpOk nD (n0 D (by simp))
    have nG : X.s_0.heap.get? D = none := Option.eq_none_iff_forall_ne_some.mpr fun o q => absurd (Nat.lt_of_lt_of_le (Heap.lt_size q) (Nat.le_trans I2.sz nD)) (Nat.lt_irrefl _)
    have J1 := inv_adopt (o := .lst us) J0 fD.1 fD.2.1 fD.2.2.2.2.1 fD.2.2.2.2.2 nG ⟨by rw [← ra.length, el]; exact lim, ys, cD, va, plD⟩
    have freeC : upd H' D (.lst us) ce.locals = none := by rw [eL, upd_ne neDC.symm, ← eL]; exact J.free
    obtain ⟨mC, nsC, -⟩ := J.loc
    have m0 := hm.free (n0 D (by simp))
    exact fin D ce s _ acc m J1 (I2.fpOk (by rw [eL]; exact nC) freeC) ⟨mC, nsC⟩ (new_lst hm (n0 D (by simp)) ra) (ext.trans (Ext.new (n0 D (by simp)))) el Pm m0
/-! ### the comprehension, told or kept under a name -/
theorem q_lcG2 {T : TI3} (hne : i ≠ i') (tk : Takes X W) (hst : X.stack = X.env :: X.outer) (hef : X.env.frame = some X.env.locals) (hN : X.N.Nodup) (ha : QSr X cl W (.Tuple [.Name x p1, .Name x' p2] tk0 p3) a T) (ok : BlkOk X.N X.env.scope scope [(x, i), (x', i')]) (hcell : ∀ z ∈ scope.names, z.2 ≠ .cell)
    (hg : ∀ (s : Shared) (H : Hp) (C : Addr) (cz : List (Str × Addr)) (fp : List Addr) (xe : Value → Shared → Prop), PG (blkX X s H scope (compEnvC scope cz C X.env) fp xe) (.Tuple [.Name x p1, .Name x' p2] tk0 p3) (gTup X.K 2 (gCons (gName i) (gCons (gName i') gNil))))
    (hb : ∀ (s : Shared) (H : Hp) (C : Addr) (cz : List (Str × Addr)) (fp : List Addr) (xe : Value → Shared → Prop) (σ : L2.St), Takes (blkX X s H scope (compEnvC scope cz C X.env) fp xe) (wAt W σ) → QE (blkX X s H scope (compEnvC scope cz C X.env) fp xe) cl (wAt W σ) e B)
    (hfs : ∀ z, foldedSetIterable a X.env z = pure z) : QE X cl W (.ListComp e [⟨.Tuple [.Name x p1, .Name x' p2] tk0 p3, a, [], 0⟩] scope pos) (eLcG2 T i i' B) := by
  have mB : MonoE B := (hb X.s_0 X.H_0 0 [] [] (fun _ _ => True) [] fun _ _ _ => True.intro).mono
  refine ⟨mono_lcG2 ha.mono mB, ⟨fun pins s0 σ H Q I0 ⟨sl, m0, hs0, hm0, h⟩ => ?_⟩⟩
  refine ListComp_goes (blk_clos2 I0 ok) hcell ok.kind (fun y m q => (ok.uniq y m).trans (congrArg some q)) ?_ hfs
  refine wpAny_mono (ha.run pins s0 σ H sl m0 _ I0 hs0 hm0 h) (fun v s1 h1 => wpAny_mono h1 (fun itv s2 h2 => ?_) fun _ _ z => z) fun _ _ z => z
  obtain ⟨it, fp, l, R, Y, St, H1, m1, rfl, I2, src, st0, low, fit, lim, hm1, e1, P, P0, PR, Pstep, Pend⟩ := h2
  refine lc_turns2 hne tk hst hef hN ok hcell hg hb I2 src st0 low fit lim (hs0.mono e1) hm1 P0 PR (fun acc d m q z => (Pstep acc d m q z).elim fun u w => w.elim fun v w => ⟨u, v, w.1, mB _ _ _ _ _ _ (fun _ _ h => h) (fun ex m6 q c dd H6 r hm6 e6 => q c dd H6 r hm6 (e1.trans e6)) w.2⟩) fun q ce s H' acc m J fC ⟨mC, ns⟩ hm e2 len Pm mq => ?_
  exact ⟨mC, ns, fun h' sb => ⟨.ref q, H', J.turned (t' := s.toks) (it := ce.locals) (fun b o n q => (sb.2 b n).trans q) fC.1 fC.2.1 fC.2.2.2.1 fC.2.2.2.2.1 fC.2.2.2.2.2, rfl, Pend acc m len Pm q mq _ _ rfl hm (e1.trans e2)⟩⟩
end
end PV

/-! An exception as a value; isinstance of it and a built-in class; == of what is one object, and of any list and an empty one. -/
namespace PV
open PySem L2 PyProof.Rows
section
variable {X : Cx} {cl : Cl} {W : WX} {a b : Expr} {A B : TE3} {R : TA3} {rest : List Expr} {pos p p2 p3 : Pos}
/-! ### made, not raised -/
theorem pe_newE {t : L2.St → Hp → XK → Prop} {e : Expr} (hx : X.ex = []) (h : PMk X e t) : PE X e (fun σ H Q => t σ H fun cls d H' => ∀ z, H' z = none → Q (.ref z) (upd H' z (exoH cls d z))) := by
  refine ⟨fun pins s σ H Q I q => wpAny_mono (h pins s σ H _ I q) (fun u s' hu => ?_) fun _ _ z => z⟩
  obtain ⟨z, oe, vs, sI, H', cls, d, rfl, J, keep, new, there, kept, data, -, free, os, bare, -, q⟩ := hu
  have is : ∀ {b : Addr}, (∃ o, sI.heap.get? b = some o) → b ≠ z := fun ⟨o, w⟩ e => by rw [e, new] at w; cases w
  have J2 : Inv X pins σ H' s' := J.call' os (Un.kept (ex := []) keep) (J.hok.kept keep) bare (fun _ w => absurd w (by simp))
  have obj : ObjOk X.prog X.w (upd H' z (exoH cls d z)) s'.heap z (exoH cls d z) := by
    refine ⟨⟨oe, there, kept, vs, data⟩, ⟨oe, there⟩, ?_⟩
    rintro h1 h2 ⟨o1, g1, k1, v1, d1⟩ up
    exact ⟨o1, up _ g1, k1, v1, d1⟩
  refine ⟨.ref z, upd H' z (exoH cls d z), inv_adopt J2 free ?_ ?_ ?_ ?_ obj, rfl, q z free⟩
  · obtain ⟨m, ⟨o, _, _, w, _⟩, _⟩ := J.loc
    exact (is ⟨o, w⟩).symm
  · intro x c e
    obtain ⟨v, o, w, _⟩ := J.cell x c e
    exact is ⟨o, w⟩
  · intro w hw
    exact is ⟨w.2, (J.pin w hw).1⟩
  · cases w : X.s_0.heap.get? z with
    | none => rfl
    | some o =>
      obtain ⟨o', w'⟩ := J.base.there z o w (by rw [hx]; exact fun y => nomatch y)
      rw [new] at w'; cases w'
/-- C('m') -/
def eNewE (n : String) : TE3 := fun _ m k _ => ∀ z, m z = none → k (.ref z) (mset m z (.exc n none))
theorem q_newE {n : String} {x msg : Str} {j : Nat} (EK : ExK X.K X.mg cl) (hex : X.ex = []) (hn : n ∈ eNames) (hcl : ∃ a, cl n = some a) (ho : n ≠ "Clash") (hx : x = Str.ofString n) (hg : Gl X x) (hdb : (x == ("__debug__" : Str)) = false) :
    QE X cl W (.Call (.Name x p) [.Constant (.str msg) j p2] [] p3) (eNewE n) := by
  obtain ⟨ca, e1⟩ := hcl
  have e2 := EK.at_ n hn ca e1
  have B := EK.ok n hn ca e1
  refine ⟨fun s m k k' x x' hk hx q z hz => hk _ _ (q z hz), ?_⟩
  refine PE.imp (pe_newE hex (pmk_own PySem.F.excBase_ValueError (EK.own n hn ho ca e1) (hx ▸ e2) B.kp (raises_own B.xf.exC B.ty) hg hdb)) fun σ H Q ⟨s, m, hs, hm, q⟩ z hz => ?_
  exact q z (hm.free hz) _ _ rfl (hm.new hz ⟨ca, hn, e1, upd_same⟩) (Ext.new hz)
theorem x_newE {n : String} {s : S3} {m : Mp} {k : K3} {x : X3} (h : ∀ z, m z = none → k (.ref z) (mset m z (.exc n none))) : eNewE n s m k x := h
/-! ### isinstance of anything and a built-in class -/
def fIsiX : List D → Mp → K3 → Prop := fun ds m k => fIsi ds m k ∨ ∃ z n T, ds = [.ref z, .ty T] ∧ m z = some (.exc n none) ∧ T ∈ plainT ∧ k (.bl false) m
theorem q_isiX (EK : ExK X.K X.mg cl) (hg : Gl X "isinstance") (hm : X.mg "isinstance" = none) (ha : QA X cl W (a :: rest) R) (he : starEach (a :: rest) X.env = (false, eval a X.env) :: starEach rest X.env) (hpl : (backTo pos (starEach rest X.env)).any (·.1) = false) :
    QE X cl W (.Call (.Name "isinstance" p) (a :: rest) [] pos) (eCB fIsiX R) :=
  q_cb (call_isX.or call_isi) (fun H m ds vs Q r hm q => by
    rcases q with ⟨d, T, t, b, e, h1, h2, h3⟩ | ⟨z, n, T, e, h1, h2, h3⟩
    · subst e
      obtain ⟨v, w, rfl, q, q'⟩ := reps2 r
      cases q'
      exact .inr ⟨v, .ty T, .type t, .type T, b, rfl, .ty T, h1.up q hm, kit_ty h2, h3 _ _ rfl hm (Ext.refl H)⟩
    · subst e
      obtain ⟨v, w, rfl, q, q'⟩ := reps2 r
      cases q'
      have q : v = .ref z := q
      obtain ⟨C, hC, hc, hh⟩ := hm.1 z _ h1
      exact .inl ⟨z, C, none, .ty T, .type T, false, by rw [q], .ty T, hh, (fun _ w => by cases w), EK.ok n hC C hc, (EK.ok n hC C hc).nb T h2, h3 _ _ rfl hm (Ext.refl H)⟩)
    (fun ds m k k' hk q => q.elim (fun ⟨d, T, t, b, e, h1, h2, h3⟩ => .inl ⟨d, T, t, b, e, h1, h2, hk _ _ h3⟩) fun ⟨z, n, T, e, h1, h2, h3⟩ => .inr ⟨z, n, T, e, h1, h2, hk _ _ h3⟩) (by decide +kernel) (by decide) (by decide) hg hm ha he hpl
theorem xf_isiX {ds : List D} {m : Mp} {k : K3} (h : fIsi ds m k) : fIsiX ds m k := .inl h
theorem xf_isiE {z : Addr} {n T : String} {m : Mp} {k : K3} (h1 : m z = some (.exc n none)) (h2 : T ∈ plainT) (h : k (.bl false) m) : fIsiX [.ref z, .ty T] m k := .inr ⟨z, n, T, rfl, h1, h2, h⟩
/-! ### == of one object, and of a list and an empty one -/
theorem rc_one {A0 : Around} {s : Shared} {z C : Addr} {oz : Obj} {od : Option Obj} {K : PySem.W.Frag} (hu : A0.units < cLine) (kin : K.In s.heap) (I : PySem.W.InstAt s.heap z oz C od) (hm : PySem.W.mroIn K C (.type "object") = some true)
    (hs : PySem.W.findIn K (.ref C) "__eq__" = some (some (.builtin "object.__eq__"))) : SeqAt.RcAt A0 s (.ref z) (.ref z) true := fun prog w E Q h => by
  have slot : wpAny (model prog w) A0 (call (.builtin "object.__eq__") [.ref z, .ref z]) (fun v s1 => v = .bool true ∧ s1 = s) E s :=
    wpAny_call (codeAny_call_builtin PySem.F.cmp_object.eq.plain PySem.F.cmpEntry_eq
      (PySem.W.check_slot PySem.F.cmpKind_eq PySem.F.cmpSplit_eq (I.type.andThen (PySem.W.looks_mroIn kin hm)) (PySem.F.cmpArgs_eq _ _)
        (PySem.objEq_entry_same ⟨rfl, rfl⟩)))
  have asked : wpAny (model prog w) A0 (tryCompare (.ref z) "__eq__" (.ref z)) (fun r s1 => r = some (.bool true) ∧ s1 = s) E s := by
    unfold tryCompare
    refine wpAny_bind (HN.ifBound_objEq kin I hs (wpAny_mono slot (fun v s1 e => ?_) fun _ _ e => e))
    obtain ⟨rfl, rfl⟩ := e
    exact wpAny_pure ⟨rfl, rfl⟩
  unfold richCompare
  refine wpAny_holding (wpAny_bind (wpAny_cRoomFor hu ?_))
  simp only [cmpInfo_Eq, oneThing_ref]
  refine wpAny_bind (I.type.here (wpAny_bind (I.type.here ?_)))
  rw [if_neg (show ¬ (Value.ref C != Value.ref C) = true by simp)]
  refine wpAny_bind (wpAny_pure ?_)
  simp only [Bool.false_eq_true, if_false]
  refine wpAny_bind (m := tryCompare (.ref z) _ (.ref z)) (wpAny_mono asked (fun r s1 e => ?_) fun _ _ e => e)
  obtain ⟨rfl, rfl⟩ := e
  exact wpAny_pure h
/-- x == y -/
def rEqK (K : PySem.W.Frag) : R2 := fun x y H Q => rEqP K x y H Q ∨ (∃ z C, x = .ref z ∧ y = .ref z ∧ H z = some (exoH (.ref C) none z) ∧ ExB K C ∧ Q (.bl true) H) ∨
  (∃ z, x = .ref z ∧ y = .ref z ∧ H z = some (.dK []) ∧ Q (.bl true) H) ∨ ∃ u v vs, x = .ref u ∧ y = .ref v ∧ SqL K H u vs ∧ SqL K H v [] ∧ Q (.bl vs.isEmpty) H
theorem op_eqK (hu : X.A.units + 64 < cLine) : OpR X (compareOp .Eq) (rEqK X.K) := by
  rintro pins s σ H x y v u Q I rx ry (h | ⟨z, C, rfl, rfl, hz, B, q⟩ | ⟨z, rfl, rfl, hz, q⟩ | ⟨l1, l2, vs, rfl, rfl, h1, h2, q⟩)
  · exact op_eqP hu pins s σ H x y v u Q I rx ry h
  · cases rx
    cases ry
    obtain ⟨oe, od, inst⟩ := exo_inst I hz fun _ w => by cases w
    exact rc_one (by omega) I.kIn inst B.mro B.eq X.prog X.w _ _ ⟨.bl true, H, I, rfl, q⟩
  · cases rx
    cases ry
    obtain ⟨_, sys, kws, rel, dict⟩ := dk_of I.hok hz
    cases rel
    refine PySem.W.rcP_dicts (r := true) sys sys dict dict (by omega) (fun _ => .nil) _ _ ?_
    exact ⟨.bl true, H, I, rfl, q⟩
  · cases rx
    cases ry
    obtain ⟨i1, w1, ⟨o1, n1, g1, c1, _, e1⟩, _⟩ := I.list h1
    obtain ⟨i2, w2, ⟨o2, n2, g2, c2, _, e2⟩, _⟩ := I.list h2
    cases w2
    have a1 : s.heap.IsList l1 i1.toArray := ⟨o1, g1, c1, n1, e1⟩
    have a2 : s.heap.IsList l2 ([] : List Value).toArray := ⟨o2, g2, c2, n2, e2⟩
    cases w1 with
    | nil =>
      refine SeqAt.RcAt.lists (e := fun _ => true) a1 a2 rfl (by omega) (fun j w => absurd w (Nat.not_lt_zero _)) X.prog X.w _ _ ?_
      exact ⟨.bl true, H, I, rfl, q⟩
    | cons r rs =>
      refine SeqAt.RcAt.lists_lengths a1 a2 (by simp) (by omega) X.prog X.w _ _ ?_
      exact ⟨.bl false, H, I, rfl, q⟩
def fEqK : D → D → Mp → K3 → Prop := fun u v m k => fEq u v m k ∨ (∃ z n, u = .ref z ∧ v = .ref z ∧ m z = some (.exc n none) ∧ k (.bl true) m) ∨ (∃ z, u = .ref z ∧ v = .ref z ∧ m z = some (.dK []) ∧ k (.bl true) m) ∨
  ∃ a b l, u = .ref a ∧ v = .ref b ∧ RL m a l ∧ RL m b [] ∧ k (.bl l.isEmpty) m
theorem mono_fEqK : MonoF fEqK := fun u v m k k' hk h => by
  rcases h with h | ⟨z, n, h1, h2, h3, h4⟩ | ⟨z, h1, h2, h3, h4⟩ | ⟨a, b, l, h1, h2, h3, h4, h5⟩
  · exact .inl (mono_fEq u v m k k' hk h)
  · exact .inr (.inl ⟨z, n, h1, h2, h3, hk _ _ h4⟩)
  · exact .inr (.inr (.inl ⟨z, h1, h2, h3, hk _ _ h4⟩))
  · exact .inr (.inr (.inr ⟨a, b, l, h1, h2, h3, h4, hk _ _ h5⟩))
theorem up_eqK (EK : ExK X.K X.mg cl) {H : Hp} {m : Mp} {u v : D} {x y : V} {Q : VK} (rx : Rep X.K H u x) (ry : Rep X.K H v y) (hm : Ab X.K cl H m) (h : fEqK u v m (cE X.K cl H Q)) : rEqK X.K x y H Q := by
  rcases h with ⟨d, e, h1, h2, h3, h4⟩ | ⟨z, n, rfl, rfl, h3, h4⟩ | ⟨z, rfl, rfl, h3, h4⟩ | ⟨a, b, l, rfl, rfl, h3, h4, h5⟩
  · exact .inl ⟨d, e, h1.dp hm rx, h2.dp hm ry, h1.plain, h2.plain, h3, h4 _ _ rfl hm (Ext.refl H)⟩
  · have rx : x = .ref z := rx
    have ry : y = .ref z := ry
    obtain ⟨C, hC, hc, hh⟩ := hm.1 z _ h3
    exact .inr (.inl ⟨z, C, rx, ry, hh, EK.ok n hC C hc, h4 _ _ rfl hm (Ext.refl H)⟩)
  · have rx : x = .ref z := rx
    have ry : y = .ref z := ry
    obtain ⟨kws, g1, g2⟩ := hm.1 z _ h3
    cases g2
    exact .inr (.inr (.inl ⟨z, rx, ry, g1, h4 _ _ rfl hm (Ext.refl H)⟩))
  · have rx : x = .ref a := rx
    have ry : y = .ref b := ry
    obtain ⟨vs, g1, g2⟩ := hm.rl h3
    obtain ⟨ws, g3, g4⟩ := hm.rl h4
    cases g4
    refine .inr (.inr (.inr ⟨a, b, vs, rx, ry, g1, g3, ?_⟩))
    have e : vs.isEmpty = l.isEmpty := by
      have := g2.length
      cases l <;> cases vs <;> simp_all
    rw [e]
    exact h5 _ _ rfl hm (Ext.refl H)
theorem q_eqK (EK : ExK X.K X.mg cl) (hu : X.A.units + 64 < cLine) (ha : QE X cl W a A) (hb : QE X cl W b B) : QE X cl W (.Compare a [.Eq] [b] pos) (eBin fEqK A B) :=
  q_cmp (op_eqK hu) (fun _ _ _ _ _ _ _ rx ry hm h => up_eqK EK rx ry hm h) mono_fEqK ha hb (nomark _)
theorem t_eqK (EK : ExK X.K X.mg cl) (hu : X.A.units + 64 < cLine) (ha : QE X cl W a A) (hb : QE X cl W b B) : QT X cl W (.Compare a [.Eq] [b] pos) (tBv (eBin fEqK A B)) :=
  t_cmp (op_eqK hu) (fun _ _ _ _ _ _ _ rx ry hm h => up_eqK EK rx ry hm h) mono_fEqK ha hb (nomark _)
theorem xf_eqK {u v : D} {m : Mp} {k : K3} (h : fEq u v m k) : fEqK u v m k := .inl h
theorem xf_eqKe {z : Addr} {n : String} {m : Mp} {k : K3} (h1 : m z = some (.exc n none)) (h : k (.bl true) m) : fEqK (.ref z) (.ref z) m k := .inr (.inl ⟨z, n, rfl, rfl, h1, h⟩)
theorem xf_eqKd {z : Addr} {m : Mp} {k : K3} (h1 : m z = some (.dK [])) (h : k (.bl true) m) : fEqK (.ref z) (.ref z) m k := .inr (.inr (.inl ⟨z, rfl, rfl, h1, h⟩))
theorem xf_eqKl {a b : Addr} {l : List D} {m : Mp} {k : K3} (h1 : RL m a l) (h2 : RL m b []) (h : k (.bl l.isEmpty) m) : fEqK (.ref a) (.ref b) m k := .inr (.inr (.inr ⟨a, b, l, rfl, rfl, h1, h2, h⟩))
end
end PV

namespace PV
open PySem L2 PyProof.Rows
abbrev i_is_number : Nat := 20
def N_is_number : List Str := [(Str.ofString "thing")]
def t_is_number (T : Tb) (L : Nat) : TS3 :=
  sRet (eAnd (eCB fIsiX (aCons (eVar 0) (aCons (eLit (.ty "int")) (aNil)))) (eAnd (eNot (eCB fIsiX (aCons (eVar 0) (aCons (eLit (.ty "bool")) (aNil))))) (eChain (fun i j => decide (i ≤ j)) (fun i j => decide (i ≤ j)) (eNeg (eLit (.int 1000000000000000000000000000000))) (eVar 0) (eLit (.int 1000000000000000000000000000000)))))
abbrev i_is_text : Nat := 21
def N_is_text : List Str := [(Str.ofString "thing"), (Str.ofString "sign")]
def t_is_text (T : Tb) (L : Nat) : TS3 :=
  sSeq (sIf (tOr3 (tNot3 (tTru (eCB fIsiX (aCons (eVar 0) (aCons (eLit (.ty "str")) (aNil)))))) (tBv (eBin fGt (eCB fLen (aCons (eVar 0) (aNil))) (eLit (.int 60))))) (sRet (eLit (.bl false))) (sNil))
    (sSeq (sFor (iSq (eVar 0)) (gNm 1) (sIf (tOr3 (tNot3 (tBv (eChain (fun i j => decide (i ≤ j)) (fun i j => decide (i ≤ j)) (eLit (.int 32)) (eCB fOrd (aCons (eVar 1) (aNil))) (eLit (.int 126))))) (tBv (eBin fEq (eCB fOrd (aCons (eVar 1) (aNil))) (eLit (.int 37))))) (sRet (eLit (.bl false))) (sNil)))
    (sRet (eLit (.bl true))))
abbrev i_is_within : Nat := 22
def N_is_within : List Str := [(Str.ofString "thing"), (Str.ofString "deep"), (Str.ofString "part")]
def t_is_within (T : Tb) (L : Nat) : TS3 :=
  sSeq (sIf (tOr3 (tBv (eBin (fIs false) (eVar 0) (eLit .non))) (tOr3 (tTru (eCall T L 20 (aCons (eVar 0) (aNil)))) (tTru (eCall T L 21 (aCons (eVar 0) (aNil)))))) (sRet (eLit (.bl true))) (sNil))
    (sSeq (sIf (tOr3 (tNot3 (tTru (eCB fIsiX (aCons (eVar 0) (aCons (eLit (.ty "tuple")) (aNil)))))) (tOr3 (tBv (eBin fEq (eVar 1) (eLit (.int 0)))) (tBv (eBin fGt (eCB fLen (aCons (eVar 0) (aNil))) (eLit (.int 40)))))) (sRet (eLit (.bl false))) (sNil))
    (sSeq (sFor (iSq (eVar 0)) (gNm 2) (sIf (tNot3 (tTru (eCall T L 22 (aCons (eVar 2) (aCons (eBin fSub (eVar 1) (eLit (.int 1))) (aNil)))))) (sRet (eLit (.bl false))) (sNil)))
    (sRet (eLit (.bl true)))))
abbrev i_is_thing : Nat := 29
def N_is_thing : List Str := [(Str.ofString "thing")]
def t_is_thing (T : Tb) (L : Nat) : TS3 :=
  sRet (eCall T L 22 (aCons (eVar 0) (aCons (eLit (.int 5)) (aNil))))
abbrev i_law_cell_at : Nat := 9
def N_law_cell_at : List Str := [(Str.ofString "script"), (Str.ofString "k")]
def t_law_cell_at (T : Tb) (L : Nat) : TS3 :=
  sSeq (sIf (tBv (eBin fLt (eVar 1) (eCB fLen (aCons (eVar 0) (aNil))))) (sRet (eBin fIx (eVar 0) (eVar 1))) (sNil))
    (sRet (eLit (.int 0)))
abbrev i_law_stream : Nat := 10
def N_law_stream : List Str := [(Str.ofString "cell"), (Str.ofString "way"), (Str.ofString "low")]
def t_law_stream (T : Tb) (L : Nat) : TS3 :=
  sSeq (sIf (tBv (eBin fEq (eVar 1) (eLit (.int 0)))) (sRet (eLst (aCons (eVar 0) (aCons (eLit (.int 0)) (aNil))))) (sNil))
    (sSeq (sAsg (eBin fMod (eVar 0) (eLit (.int 536870909))) (gNm 2))
    (sSeq (sAsg (eBin fMod (eBin fAdd (eBin fMul (eBin fMod (eBin fMul (eVar 2) (eVar 2)) (eLit (.int 536870909))) (eBin fAdd (eVar 2) (eLit (.int 7)))) (eLit (.int 13))) (eLit (.int 536870909))) (gNm 2))
    (sRet (eLst (aCons (eVar 2) (aCons (eLit (.int 1)) (aNil)))))))
abbrev i_law_take : Nat := 3
def N_law_take : List Str := [(Str.ofString "row"), (Str.ofString "many"), (Str.ofString "told")]
def t_law_take (T : Tb) (L : Nat) : TS3 :=
  sSeq (sIf (tBv (eBin fEq (eBin fIx (eVar 0) (eLit (.int 1))) (eLit (.int 0)))) (sSeq (sAsg (eBin fMod (eBin fIx (eVar 0) (eLit (.int 0))) (eVar 1)) (gNm 2))
    (sSeq (sSub (eVar 0) (eLit (.int 0)) (eBin fDiv (eBin fIx (eVar 0) (eLit (.int 0))) (eVar 1)))
    (sRet (eVar 2)))) (sNil))
    (sSeq (sSub (eVar 0) (eLit (.int 0)) (eBin fMod (eBin fMul (eBin fAdd (eBin fIx (eVar 0) (eLit (.int 0))) (eLit (.int 7919))) (eBin fAdd (eBin fIx (eVar 0) (eLit (.int 0))) (eLit (.int 104729)))) (eLit (.int 536870909))))
    (sRet (eBin fMod (eBin fAdd (eBin fMul (eBin fIx (eVar 0) (eLit (.int 0))) (eLit (.int 48271))) (eLit (.int 11))) (eVar 1))))
abbrev i_law_number : Nat := 4
def N_law_number : List Str := [(Str.ofString "row"), (Str.ofString "kind"), (Str.ofString "number"), (Str.ofString "k")]
def t_law_number (T : Tb) (L : Nat) : TS3 :=
  sSeq (sAsg (eCall T L 3 (aCons (eVar 0) (aCons (eLit (.int 4)) (aNil)))) (gNm 1))
    (sSeq (sIf (tBv (eBin fEq (eVar 1) (eLit (.int 0)))) (sRet (eBin fSub (eCall T L 3 (aCons (eVar 0) (aCons (eLit (.int 21)) (aNil)))) (eLit (.int 10)))) (sNil))
    (sSeq (sIf (tBv (eBin fEq (eVar 1) (eLit (.int 1)))) (sRet (eBin fMul (eBin fIx (eLst (aCons (eLit (.int 1)) (aCons (eNeg (eLit (.int 1))) (aNil)))) (eCall T L 3 (aCons (eVar 0) (aCons (eLit (.int 2)) (aNil))))) (eBin fSub (eBin fPow (eLit (.int 10)) (eLit (.int 30))) (eCall T L 3 (aCons (eVar 0) (aCons (eLit (.int 3)) (aNil))))))) (sNil))
    (sSeq (sIf (tBv (eBin fEq (eVar 1) (eLit (.int 2)))) (sSeq (sAsg (eBin fMul (eBin fIx (eLst (aCons (eLit (.int 1)) (aCons (eNeg (eLit (.int 1))) (aNil)))) (eCall T L 3 (aCons (eVar 0) (aCons (eLit (.int 2)) (aNil))))) (eCall T L 3 (aCons (eVar 0) (aCons (eBin fPow (eLit (.int 10)) (eLit (.int 6))) (aNil))))) (gNm 2))
    (sSeq (sFor (iR1 (aCons (eCall T L 3 (aCons (eVar 0) (aCons (eLit (.int 25)) (aNil)))) (aNil))) (gNm 3) (sAsg (eBin fMul (eVar 2) (eLit (.int 10))) (gNm 2)))
    (sRet (eVar 2)))) (sNil))
    (sRet (eCB fMin2 (aCons (eBin fPow (eLit (.int 10)) (eLit (.int 30))) (aCons (eBin fSub (eBin fAdd (eBin fMul (eCall T L 3 (aCons (eVar 0) (aCons (eBin fAdd (eBin fMul (eLit (.int 2)) (eBin fPow (eLit (.int 10)) (eLit (.int 15)))) (eLit (.int 1))) (aNil)))) (eBin fPow (eLit (.int 10)) (eLit (.int 15)))) (eCall T L 3 (aCons (eVar 0) (aCons (eBin fPow (eLit (.int 10)) (eLit (.int 15))) (aNil))))) (eBin fPow (eLit (.int 10)) (eLit (.int 30)))) (aNil))))))))
abbrev i_law_text : Nat := 5
def N_law_text : List Str := [(Str.ofString "row"), (Str.ofString "signs"), (Str.ofString "text"), (Str.ofString "k")]
def t_law_text (T : Tb) (L : Nat) : TS3 :=
  sSeq (sAsg (eLit (.str (Str.ofString " !\"#$&'()*+,-./0123456789:;<=>?@ABCDEFGHIJKLMNOPQRSTUVWXYZ[\\]^_`"))) (gNm 1))
    (sSeq (sAsg (eBin fAdd (eVar 1) (eLit (.str (Str.ofString "abcdefghijklmnopqrstuvwxyz{|}~")))) (gNm 1))
    (sSeq (sAsg (eLit (.str (Str.ofString ""))) (gNm 2))
    (sSeq (sFor (iR1 (aCons (eCall T L 3 (aCons (eVar 0) (aCons (eBin fIx (eLst (aCons (eLit (.int 4)) (aCons (eLit (.int 8)) (aCons (eLit (.int 61)) (aCons (eLit (.int 16)) (aNil)))))) (eCall T L 3 (aCons (eVar 0) (aCons (eLit (.int 4)) (aNil))))) (aNil)))) (aNil))) (gNm 3) (sAsg (eBin fAdd (eVar 2) (eBin fIx (eVar 1) (eCall T L 3 (aCons (eVar 0) (aCons (eLit (.int 94)) (aNil)))))) (gNm 2)))
    (sRet (eVar 2)))))
abbrev i_law_thing : Nat := 6
def N_law_thing : List Str := [(Str.ofString "row"), (Str.ofString "deep"), (Str.ofString "left"), (Str.ofString "kind"), (Str.ofString "pieces"), (Str.ofString "k")]
def t_law_thing (T : Tb) (L : Nat) : TS3 :=
  sSeq (sSub (eVar 2) (eLit (.int 0)) (eBin fSub (eBin fIx (eVar 2) (eLit (.int 0))) (eLit (.int 1))))
    (sSeq (sAsg (eCall T L 3 (aCons (eVar 0) (aCons (eLit (.int 7)) (aNil)))) (gNm 3))
    (sSeq (sIf (tBv (eBin fEq (eVar 3) (eLit (.int 0)))) (sRet (eLit .non)) (sNil))
    (sSeq (sIf (tOr3 (tBv (eBin fLt (eVar 3) (eLit (.int 3)))) (tAnd3 (tBv (eBin fGt (eVar 3) (eLit (.int 4)))) (tOr3 (tBv (eBin fEq (eVar 1) (eLit (.int 0)))) (tBv (eBin fLt (eBin fIx (eVar 2) (eLit (.int 0))) (eLit (.int 1))))))) (sRet (eCall T L 4 (aCons (eVar 0) (aNil)))) (sNil))
    (sSeq (sIf (tBv (eBin fLt (eVar 3) (eLit (.int 5)))) (sRet (eCall T L 5 (aCons (eVar 0) (aNil)))) (sNil))
    (sSeq (sAsg (eLst (aNil)) (gNm 4))
    (sSeq (sFor (iR1 (aCons (eCall T L 3 (aCons (eVar 0) (aCons (eBin fIx (eLst (aCons (eLit (.int 4)) (aCons (eLit (.int 4)) (aCons (eLit (.int 4)) (aCons (eLit (.int 41)) (aNil)))))) (eCall T L 3 (aCons (eVar 0) (aCons (eLit (.int 4)) (aNil))))) (aNil)))) (aNil))) (gNm 5) (sIf (tBv (eBin fGt (eBin fIx (eVar 2) (eLit (.int 0))) (eLit (.int 0)))) (sExp (eMt "list" fAppend (eVar 4) (aCons (eCall T L 6 (aCons (eVar 0) (aCons (eBin fSub (eVar 1) (eLit (.int 1))) (aCons (eVar 2) (aNil))))) (aNil)))) (sNil)))
    (sRet (eCB fTuple (aCons (eVar 4) (aNil))))))))))
abbrev i_law_bad : Nat := 24
def N_law_bad : List Str := [(Str.ofString "row"), (Str.ofString "sign"), (Str.ofString "text"), (Str.ofString "at"), (Str.ofString "far"), (Str.ofString "some")]
def t_law_bad (T : Tb) (L : Nat) : TS3 :=
  sSeq (sAsg (eBin fIx (eLst (aCons (eLit (.str (Str.ofString "\n"))) (aCons (eLit (.str (Str.ofString "\t"))) (aNil)))) (eCall T L 3 (aCons (eVar 0) (aCons (eLit (.int 2)) (aNil))))) (gNm 1))
    (sSeq (sAsg (eSl (eCall T L 5 (aCons (eVar 0) (aNil))) (oNone) (oSome (eLit (.int 59)))) (gNm 2))
    (sSeq (sAsg (eCall T L 3 (aCons (eVar 0) (aCons (eBin fAdd (eCB fLen (aCons (eVar 2) (aNil))) (eLit (.int 1))) (aNil)))) (gNm 3))
    (sSeq (sAsg (eBin fAdd (eBin fAdd (eBin fPow (eLit (.int 10)) (eLit (.int 30))) (eLit (.int 1))) (eBin fIx (eLst (aCons (eLit (.int 0)) (aCons (eBin fMul (eCall T L 3 (aCons (eVar 0) (aCons (eBin fPow (eLit (.int 10)) (eLit (.int 15))) (aNil)))) (eCall T L 3 (aCons (eVar 0) (aCons (eBin fPow (eLit (.int 10)) (eLit (.int 15))) (aNil))))) (aCons (eBin fPow (eLit (.int 10)) (eLit (.int 60))) (aNil))))) (eCall T L 3 (aCons (eVar 0) (aCons (eLit (.int 3)) (aNil)))))) (gNm 4))
    (sSeq (sAsg (eLst (aCons (eLit (.bl true)) (aCons (eLit (.bl false)) (aCons (eVar 4) (aCons (eNeg (eVar 4)) (aCons (eBin fAdd (eBin fAdd (eSl (eVar 2) (oNone) (oSome (eVar 3))) (eVar 1)) (eSl (eVar 2) (oSome (eVar 3)) (oNone))) (aCons (eLst (aNil)) (aCons (eLst (aCons (eLit (.int 1)) (aNil))) (aCons (eDic) (aCons (eLst (aCons (eLit (.str (Str.ofString "a"))) (aCons (eTup (aNil)) (aNil)))) (aCons (eNewE "NoThing") (aNil)))))))))))) (gNm 5))
    (sSeq (sExp (eMt "list" fAppend (eVar 5) (aCons (eBin fAdd (eVar 2) (eBin fMul (eLit (.str (Str.ofString "y"))) (eBin fAdd (eBin fSub (eLit (.int 61)) (eCB fLen (aCons (eVar 2) (aNil)))) (eBin fIx (eLst (aCons (eLit (.int 0)) (aCons (eLit (.int 1)) (aCons (eLit (.int 400)) (aNil))))) (eCall T L 3 (aCons (eVar 0) (aCons (eLit (.int 3)) (aNil)))))))) (aNil))))
    (sSeq (sExp (eMt "list" fAppend (eVar 5) (aCons (eBin fMul (eTup (aCons (eLit .non) (aNil))) (eBin fAdd (eLit (.int 41)) (eCall T L 3 (aCons (eVar 0) (aCons (eLit (.int 9)) (aNil)))))) (aNil))))
    (sRet (eBin fIx (eVar 5) (eCall T L 3 (aCons (eVar 0) (aCons (eCB fLen (aCons (eVar 5) (aNil))) (aNil))))))))))))
abbrev i_law_wrapped : Nat := 25
def N_law_wrapped : List Str := [(Str.ofString "row"), (Str.ofString "thing"), (Str.ofString "many"), (Str.ofString "k"), (Str.ofString "beside"), (Str.ofString "at"), (Str.ofString "j")]
def t_law_wrapped (T : Tb) (L : Nat) : TS3 :=
  sSeq (sFor (iR1 (aCons (eVar 2) (aNil))) (gNm 3) (sSeq (sAsg (eLc (iR1 (aCons (eCall T L 3 (aCons (eVar 0) (aCons (eLit (.int 5)) (aNil)))) (aNil))) 6 (tYes3) (eCall T L 6 (aCons (eVar 0) (aCons (eLit (.int 0)) (aCons (eLst (aCons (eLit (.int 1)) (aNil))) (aNil)))))) (gNm 4))
    (sSeq (sAsg (eCall T L 3 (aCons (eVar 0) (aCons (eBin fAdd (eCB fLen (aCons (eVar 4) (aNil))) (eLit (.int 1))) (aNil)))) (gNm 5))
    (sAsg (eCB fTuple (aCons (eBin fAdd (eBin fAdd (eSl (eVar 4) (oNone) (oSome (eVar 5))) (eLst (aCons (eVar 1) (aNil)))) (eSl (eVar 4) (oSome (eVar 5)) (oNone))) (aNil))) (gNm 1)))))
    (sRet (eVar 1))
abbrev i_law_put_in : Nat := 23
def N_law_put_in : List Str := [(Str.ofString "row"), (Str.ofString "thing"), (Str.ofString "bad"), (Str.ofString "at")]
def t_law_put_in (T : Tb) (L : Nat) : TS3 :=
  sSeq (sIf (tOr3 (tNot3 (tTru (eCB fIsiX (aCons (eVar 1) (aCons (eLit (.ty "tuple")) (aNil)))))) (tBv (eBin fEq (eCall T L 3 (aCons (eVar 0) (aCons (eLit (.int 4)) (aNil)))) (eLit (.int 0))))) (sRet (eVar 2)) (sNil))
    (sSeq (sAsg (eCall T L 3 (aCons (eVar 0) (aCons (eBin fAdd (eCB fLen (aCons (eVar 1) (aNil))) (eLit (.int 1))) (aNil)))) (gNm 3))
    (sSeq (sIf (tBv (eBin fEq (eVar 3) (eCB fLen (aCons (eVar 1) (aNil))))) (sRet (eBin fAdd (eVar 1) (eTup (aCons (eVar 2) (aNil))))) (sNil))
    (sRet (eBin fAdd (eBin fAdd (eSl (eVar 1) (oNone) (oSome (eVar 3))) (eTup (aCons (eCall T L 23 (aCons (eVar 0) (aCons (eBin fIx (eVar 1) (eVar 3)) (aCons (eVar 2) (aNil))))) (aNil)))) (eSl (eVar 1) (oSome (eBin fAdd (eVar 3) (eLit (.int 1)))) (oNone))))))
abbrev i_law_spoilt_right : Nat := 30
def N_law_spoilt_right : List Str := [(Str.ofString "row"), (Str.ofString "thing"), (Str.ofString "bad"), (Str.ofString "kept"), (Str.ofString "whole")]
def t_law_spoilt_right (T : Tb) (L : Nat) : TS3 :=
  sSeq (sAsg (eCall T L 24 (aCons (eVar 0) (aNil))) (gNm 2))
    (sSeq (sAsg (eVar 2) (gNm 3))
    (sSeqJ (sIf (tTru (eCB fIsiX (aCons (eVar 2) (aCons (eLit (.ty "list")) (aNil))))) (sAsg (eCB fList (aCons (eVar 2) (aNil))) (gNm 3)) (sNil))
    (sSeq (sAsg (eCall T L 23 (aCons (eVar 0) (aCons (eVar 1) (aCons (eVar 2) (aNil))))) (gNm 4))
    (sSeq (sIf (tOr3 (tNot3 (tTru (eCall T L 26 (aCons (eCall T L 25 (aCons (eVar 0) (aCons (eVar 4) (aCons (eCall T L 3 (aCons (eVar 0) (aCons (eLit (.int 3)) (aNil)))) (aNil))))) (aNil))))) (tNot3 (tTru (eCall T L 26 (aCons (eCall T L 25 (aCons (eVar 0) (aCons (eVar 2) (aCons (eLit (.int 1)) (aNil))))) (aNil)))))) (sRet (eLit (.bl false))) (sNil))
    (sRet (eAnd (eCall T L 26 (aCons (eBin fAdd (eBin fMul (eTup (aCons (eLit .non) (aNil))) (eBin fAdd (eLit (.int 38)) (eCall T L 3 (aCons (eVar 0) (aCons (eLit (.int 3)) (aNil)))))) (eTup (aCons (eVar 2) (aNil)))) (aNil))) (eBin fEqK (eVar 2) (eVar 3))))))))
abbrev i_law_deep : Nat := 27
def N_law_deep : List Str := [(Str.ofString "thing"), (Str.ofString "piece")]
def t_law_deep (T : Tb) (L : Nat) : TS3 :=
  sSeq (sIf (tNot3 (tTru (eCB fIsiX (aCons (eVar 0) (aCons (eLit (.ty "tuple")) (aNil)))))) (sRet (eLit (.int 0))) (sNil))
    (sRet (eBin fAdd (eLit (.int 1)) (eCB fMax1 (aCons (eBin fAdd (eLst (aCons (eLit (.int 0)) (aNil))) (eLc (iSq (eVar 0)) 1 (tYes3) (eCall T L 27 (aCons (eVar 1) (aNil))))) (aNil)))))
abbrev i_law_fine : Nat := 28
def N_law_fine : List Str := [(Str.ofString "thing"), (Str.ofString "piece"), (Str.ofString "sign")]
def t_law_fine (T : Tb) (L : Nat) : TS3 :=
  sSeq (sIf (tBv (eBin (fIs false) (eVar 0) (eLit .non))) (sRet (eLit (.bl true))) (sNil))
    (sSeq (sIf (tTru (eCB fIsiX (aCons (eVar 0) (aCons (eLit (.ty "tuple")) (aNil))))) (sRet (eAnd (eBin fLe (eCB fLen (aCons (eVar 0) (aNil))) (eLit (.int 40))) (eBin fEqK (eLc (iSq (eVar 0)) 1 (tNot3 (tTru (eCall T L 28 (aCons (eVar 1) (aNil))))) (eVar 1)) (eLst (aNil))))) (sNil))
    (sSeq (sIf (tTru (eCB fIsiX (aCons (eVar 0) (aCons (eLit (.ty "str")) (aNil))))) (sRet (eAnd (eBin fLt (eCB fLen (aCons (eVar 0) (aNil))) (eLit (.int 61))) (eBin fEqK (eLc (iSq (eVar 0)) 2 (tOr3 (tBv (eBin fLt (eCB fOrd (aCons (eVar 2) (aNil))) (eLit (.int 32)))) (tBv (eBin fGt (eCB fOrd (aCons (eVar 2) (aNil))) (eLit (.int 126))))) (eVar 2)) (eLst (aNil))))) (sNil))
    (sRet (eAnd (eCB fIsiX (aCons (eVar 0) (aCons (eLit (.ty "int")) (aNil)))) (eAnd (eNot (eCB fIsiX (aCons (eVar 0) (aCons (eLit (.ty "bool")) (aNil))))) (eBin fLe (eCB fAbs (aCons (eVar 0) (aNil))) (eBin fPow (eLit (.int 10)) (eLit (.int 30)))))))))
abbrev i_law_right : Nat := 26
def N_law_right : List Str := [(Str.ofString "thing"), (Str.ofString "told")]
def t_law_right (T : Tb) (L : Nat) : TS3 :=
  sSeq (sAsg (eCall T L 29 (aCons (eVar 0) (aNil))) (gNm 1))
    (sRet (eAnd (eCB fIsiX (aCons (eVar 1) (aCons (eLit (.ty "bool")) (aNil)))) (eBin fEq (eVar 1) (eAnd (eBin fLe (eCall T L 27 (aCons (eVar 0) (aNil))) (eLit (.int 5))) (eCall T L 28 (aCons (eVar 0) (aNil)))))))
abbrev i_law : Nat := 31
def N_law : List Str := [(Str.ofString "script"), (Str.ofString "way"), (Str.ofString "cell"), (Str.ofString "row"), (Str.ofString "thing")]
def t_law (T : Tb) (L : Nat) : TS3 :=
  sSeq (sAsg (eBin fMod (eCall T L 9 (aCons (eVar 0) (aCons (eLit (.int 0)) (aNil)))) (eLit (.int 2))) (gNm 1))
    (sSeq (sFor (iSq (eBin fAdd (eLst (aCons (eLit (.int 0)) (aNil))) (eSl (eVar 0) (oNone) (oSome (eLit (.int 63)))))) (gNm 2) (sSeq (sAsg (eCall T L 10 (aCons (eBin fDiv (eVar 2) (eLit (.int 2))) (aCons (eVar 1) (aNil)))) (gNm 3))
    (sSeq (sAsg (eCall T L 6 (aCons (eVar 3) (aCons (eLit (.int 5)) (aCons (eLst (aCons (eLit (.int 30)) (aNil))) (aNil))))) (gNm 4))
    (sSeq (sIf (tBv (eBin (fIs true) (eCall T L 29 (aCons (eVar 4) (aNil))) (eLit (.bl true)))) (sRet (eLit (.bl false))) (sNil))
    (sSeq (sIf (tNot3 (tTru (eCall T L 26 (aCons (eCall T L 25 (aCons (eVar 3) (aCons (eVar 4) (aCons (eBin fAdd (eLit (.int 1)) (eCall T L 3 (aCons (eVar 3) (aCons (eLit (.int 6)) (aNil))))) (aNil))))) (aNil))))) (sRet (eLit (.bl false))) (sNil))
    (sSeq (sIf (tNot3 (tTru (eCall T L 30 (aCons (eVar 3) (aCons (eVar 4) (aNil)))))) (sRet (eLit (.bl false))) (sNil))
    (sIf (tNot3 (tTru (eCall T L 26 (aCons (eBin fAdd (eBin fMul (eTup (aCons (eLit .non) (aNil))) (eBin fAdd (eLit (.int 38)) (eCall T L 3 (aCons (eVar 3) (aCons (eLit (.int 3)) (aNil)))))) (eTup (aCons (eVar 4) (aNil)))) (aNil))))) (sRet (eLit (.bl false))) (sNil))))))))
    (sRet (eAnd (eBin (fIs false) (eCall T L 29 (aCons (eTup (aNil)) (aNil))) (eLit (.bl true))) (eAnd (eBin (fIs false) (eCall T L 29 (aCons (eLit (.str (Str.ofString ""))) (aNil))) (eLit (.bl true))) (eBin (fIs false) (eCall T L 29 (aCons (eLst (aNil)) (aNil))) (eLit (.bl false)))))))
/-! the steps as tactics -/
local macro_rules | `(tactic| walk_at "ne") => `(tactic| first | assumption | exact Ne.symm (by assumption) | (refine ne_none' (o := ?o1) (by assumption) ?h1; case h1 => walk_at "hp") | (refine Ne.symm (ne_none' (o := ?o1) (by assumption) ?h1); case h1 => walk_at "hp"))
local macro_rules | `(tactic| walk_at "hp") => `(tactic| first | assumption | exact mset_same | (refine (mset_ne (by walk_at "ne")).trans ?_; walk_at "hp") | (refine Fr.at (by assumption) (by walk_at "ni") ?_; walk_at "hp"))
local macro_rules | `(tactic| walk_at "ni") => `(tactic| first | exact ni_nil | (refine ni_cons ?_ ?_; (walk_at "ne"); (walk_at "ni")) | assumption)
local macro_rules | `(tactic| walk_at "mm") => `(tactic| first | exact in_h | (refine in_t ?_; walk_at "mm") | assumption)
local macro_rules | `(tactic| walk_at "in") => `(tactic| first | (refine Or.inl ?_; walk_at "mm") | assumption | (refine Fr.gone ?g (by assumption); case g => walk_at "fr") | exact Or.inr (by assumption))
local macro_rules | `(tactic| walk_at "is") => `(tactic| first | exact Ins.nil | (refine Ins.cons ?_ ?_; (walk_at "in"); (walk_at "is")))
local macro_rules | `(tactic| walk_at "fr") => `(tactic| first | assumption | exact Fr.refl _ _ | (refine Fr.new ?_ (by assumption); walk_at "fr") | (refine Fr.set ?_ (by walk_at "in"); walk_at "fr") | (refine Fr.sub (by assumption) (by walk_at "is") ?_; walk_at "fr"))
local macro_rules | `(tactic| walk_at "rl") => `(tactic| first | assumption | (refine RL.new ?_ (by assumption); walk_at "rl") | (refine RL.of ?_; walk_at "hp") | (refine Or.inr (Or.inl ?_); walk_at "hp"))
local macro_rules | `(tactic| walk_at "sd") => `(tactic| first | exact True.intro | assumption | omega | (show (0:Int) < _; omega) | exact ⟨by omega, by omega⟩ | exact cdivw (by omega) (by omega) | exact cmulw ⟨by omega, by omega⟩ ⟨by omega, by omega⟩ | decide | (dsimp only [List.length_cons, List.length_nil]; omega) | (simp only [List.length_cons, List.length_nil, List.length_append, List.length_map]; omega))
local macro_rules | `(tactic| walk_at "ki") => `(tactic| first | exact kit_t (by decide) | exact kit_f (by decide))
local macro_rules | `(tactic| walk_at "ty") => `(tactic| first | exact TyD.non | exact TyD.bl _ | exact TyD.int _ | exact TyD.str _ | exact TyD.tup _ | exact TyD.lst (by walk_at "rl") | exact TyD.dK (by walk_at "hp") | exact TyD.dT (by walk_at "hp"))
local macro_rules | `(tactic| walk_at "x1") => `(tactic| with_reducible first
  | refine x_seq ?_ | refine x_asg ?_ | refine x_par ?_ | refine x_par2 ?_ | refine x_gnm ?_ | refine x_if ?_ | refine x_ret ?_ | refine x_exp ?_ | refine x_nil ?_ | refine x_retN ?_ | refine x_sub ?_ | refine x_brk ?_ | refine x_cnt ?_
  | refine x_lit ?_ | refine x_bin ?_ | refine x_neg ?_ | refine x_negI ?_ | refine x_anil ?_ | refine x_acons ?_ | refine x_tup ?_ | refine x_lst ?_ | refine x_cb ?_ | refine x_ecall ?_ | refine x_mt ?_ | refine x_mt0 ?_
  | refine x_and ?_ | refine x_or ?_ | refine x_not ?_ | refine x_ife ?_ | refine x_exb ?_ | refine x_chain ?_ | refine x_ch1 ?_ | refine x_ch2 ?_ | refine x_tbv ?_ | refine x_ttru ?_ | refine x_trB ?_ | refine x_trI ?_ | refine x_trT ?_
  | refine x_go ?_ | refine x_gr ?_ | refine x_ist ?_ | refine x_irv ?_ | refine x_ien ?_ | refine x_rev ?_
  | refine x_lc ?_ | refine x_gs1 ?_ | refine x_gs0 ?_ | refine x_dic ?_ | refine x_fld ?_ | refine x_fldS ?_ | refine x_meth ?_ | refine x_make ?_ | refine x_try ?_ | refine x_ise ?_
  | refine x_tand ?_ | refine x_tor ?_ | refine x_tnot ?_ | refine x_yes ?_ | refine x_sl ?_ | refine x_on ?_ | refine x_os ?_ | refine x_for ?_ | refine x_isq ?_ | refine x_itT ?_ | refine x_itS ?_ | refine x_ir1 ?_ | refine x_ir3 ?_ | refine x_izp ?_
  | refine xf_addI ?_ | refine xf_ltI ?_ | refine xf_ltS ?_ | refine xf_eqI ?_ | refine xf_neI ?_ | refine xf_eqS ?_ | refine xf_neS ?_ | refine xf_eqB ?_ | refine xf_slT ?_ | refine xf_lenT ?_ | refine xf_ord ?_ | refine xf_abs ?_ | refine xf_max2 ?_ | refine xf_min2 ?_
  | refine xf_pow6 ?_ | refine xf_pow15 ?_ | refine xf_pow30 ?_ | refine xf_intI ?_ | refine xf_intB ?_ | refine xf_tupT ?_ | refine xf_lstT ?_ | refine x_tyS ?_)
local macro_rules | `(tactic| walk_at "x2") => `(tactic| first
  | ((with_reducible refine x_var (d := ?_) ?h0 ?_); case h0 => rfl)
  | ((with_reducible refine x_ir1' ?h0 ?_); case h0 => walk_at "sd")
  | ((with_reducible refine x_aug (u := ?_) ?h0 ?_); case h0 => rfl)
  | ((with_reducible refine x_sz ?h0 ?_); case h0 => walk_at "sd")
  | ((with_reducible refine xf_I ?h0 ?_); case h0 => walk_at "sd")
  | ((with_reducible refine xf_mulI ?h0 ?_); case h0 => walk_at "sd")
  | ((with_reducible refine xf_is0 (b := ?_) ?h0 ?_); case h0 => rfl)
  | ((with_reducible refine xf_is1 (b := ?_) ?h0 ?_); case h0 => rfl)
  | ((with_reducible refine xf_isiT (n := ?_) ?h0 ?h1 ?_); (case h0 => walk_at "ty"); (case h1 => decide))
  | ((with_reducible refine xf_isiF (n := ?_) ?h0 ?h1 ?_); (case h0 => walk_at "ty"); (case h1 => decide))
  | ((with_reducible refine xf_ixL (l := ?_) (d := ?_) ?h0 ?h1 ?_); (case h0 => walk_at "rl"); (case h1 => rfl))
  | ((with_reducible refine xf_ixT (d := ?_) ?h0 ?_); (case h0 => rfl))
  | ((with_reducible refine xf_set (l := ?_) (j := ?_) ?h0 ?h1 ?_); (case h0 => walk_at "hp"); (case h1 => rfl))
  | ((with_reducible refine xf_app (l := ?_) ?h0 ?h1 ?_); (case h0 => walk_at "hp"); (case h1 => walk_at "sd"))
  | ((with_reducible refine x_tyL (l := ?_) ?h0 ?_); (case h0 => walk_at "rl"))
  | ((with_reducible refine x_tyK (kvs := ?_) ?h0 ?_); (case h0 => walk_at "hp"))
  | ((with_reducible refine xf_fld (C := ?_) (fs := ?_) (v := ?_) ?h0 ?h1 ?_); (case h0 => walk_at "hp"); (case h1 => first | assumption | rfl))
  | ((with_reducible refine xf_fldS (C := ?_) (fs := ?_) ?h0 ?h1 ?_); (case h0 => walk_at "hp"); (case h1 => first | decide | (simp only [List.length_cons, List.length_nil]; omega) | exact Nat.lt_of_lt_of_le (show _ < 10 from by simp) (by decide)))
  | ((with_reducible refine xf_meth (C := ?_) (fs := ?_) (i := ?_) ?h0 ?h1 ?h2 ?_); (case h0 => walk_at "hp"); (case h1 => first | assumption | rfl); (case h2 => first | assumption | rfl))
  | ((with_reducible refine xf_clear (l := ?_) ?h0 ?_); (case h0 => walk_at "hp"))
  | ((with_reducible refine xf_lenL (l := ?_) ?h0 ?_); (case h0 => walk_at "rl"))
  | ((with_reducible refine xf_tupL (l := ?_) ?h0 ?_); (case h0 => walk_at "rl"))
  | ((with_reducible refine x_gtp ?h0 ?_); case h0 => rfl)
  | ((with_reducible refine x_gls (l := ?_) ?h0 ?h1 ?_); (case h0 => walk_at "rl"); (case h1 => rfl))
  | ((with_reducible refine x_trL (l := ?_) ?h0 ?_); (case h0 => walk_at "rl"))
  | ((with_reducible refine x_itL (l := ?_) ?h0 ?_); (case h0 => walk_at "rl"))
  | ((with_reducible refine x_irL (l := ?_) ?h0 ?_); (case h0 => walk_at "rl"))
  | ((with_reducible refine x_ieL (l := ?_) ?h0 ?_); (case h0 => walk_at "rl"))
  | ((with_reducible refine xf_istT (t := ?_) ?h0 ?h1 ?_); (case h0 => walk_at "ty"); (case h1 => decide +kernel))
  | ((with_reducible refine xf_istF (t := ?_) ?h0 ?h1 ?_); (case h0 => walk_at "ty"); (case h1 => decide +kernel))
  | ((with_reducible refine xf_slL (l := ?_) ?h0 ?_); (case h0 => walk_at "rl"))
  | ((with_reducible refine x_itg ?_); first | refine x_iT ?_ | refine x_iF ?_)
  | (with_reducible intro _ _))
local macro_rules | `(tactic| walk_at "x") => `(tactic| repeat (first | walk_at "x1" | walk_at "x2"))
local macro_rules | `(tactic| walk_at "ix") => `(tactic| (refine fx_M (l := ?_) ?h1 ?h2 ?h3 ?h4; (case h1 => walk_at "rl"); (case h2 => assumption); (case h3 => first | assumption | walk_at "sd")))
local macro_rules | `(tactic| walk_at "nm") => `(tactic| first | assumption | decide | omega)
local macro_rules | `(tactic| walk_at "gn") => `(tactic| (refine (Fr.gone ?_ (by assumption)).resolve_left ni_nil; walk_at "fr"))

/-! the law's draws -/
def sp_take : FSpec where
  al := (Addr × List D) × Int
  lev := fun _ => 0
  pre := fun a ds m => ds = [.ref a.1.1, .int a.2] ∧ m a.1.1 = some (.lst a.1.2) ∧ RowOk a.1.2 ∧ 0 < a.2 ∧ a.2 < 2 ^ 100
  post := fun a m d m' => ∃ r row', d = .int r ∧ 0 ≤ r ∧ r < a.2 ∧ m' a.1.1 = some (.lst row') ∧ RowOk row' ∧ Fr [a.1.1] m m'
  exc := fun _ _ _ _ => False
theorem b_take (T : Tb) : BodyOk (t_law_take T) N_law_take sp_take 2 := by
  intro L a ds m k x hl hk hx hp hq he
  dsimp only [sp_take] at hl hp hq he
  obtain ⟨⟨p, row⟩, n⟩ := a
  obtain ⟨rfl, h1, ⟨y, w, rfl, h2⟩, h3, h4⟩ := hp
  dsimp only at *
  unfold t_law_take
  walk_at "x"
  refine x_iD (fun h => ?_) (fun h => ?_)
  · walk_at "x"
    refine hq _ _ ⟨_, _, rfl, Int.emod_nonneg _ (by omega), Int.emod_lt_of_pos _ h3, by walk_at "hp", ⟨_, _, rfl, .inl h⟩, by walk_at "fr"⟩
  · walk_at "x"
    rcases h2 with h2 | ⟨h2, h2'⟩
    · exact (h h2).elim
    have := Int.emod_lt_of_pos ((y + 7919) * (y + 104729)) (show (0:Int) < 536870909 by decide)
    have := Int.emod_nonneg ((y + 7919) * (y + 104729)) (show (536870909:Int) ≠ 0 by decide)
    refine hq _ _ ⟨_, _, rfl, Int.emod_nonneg _ (by omega), Int.emod_lt_of_pos _ h3, by walk_at "hp", ⟨_, _, rfl, .inr ⟨by assumption, by assumption⟩⟩, by walk_at "fr"⟩
/-- a draw -/
theorem c_take {T : Tb} {L : Nat} {m : Mp} {k : K3} {x : X3} {p : Addr} {row : List D} {n : Int} (hT : T i_law_take sp_take) (hL : 0 < L) (h1 : m p = some (.lst row)) (h2 : RowOk row) (h3 : 0 < n) (h4 : n < 2 ^ 100)
    (hk : ∀ r row' m', 0 ≤ r → r < n → m' p = some (.lst row') → RowOk row' → Fr [p] m m' → k (.int r) m') : callS T L i_law_take [.ref p, .int n] m k x := by
  refine x_call hT ⟨(p, row), n⟩ hL ⟨rfl, h1, h2, h3, h4⟩ ?_ (fun _ _ h => h.elim)
  rintro d m' ⟨r, row', rfl, a, b, c, e, f⟩
  exact hk r row' m' a b c e f

def sp_cell : FSpec where
  al := Addr × List Int × Int
  lev := fun _ => 0
  pre := fun a ds m => ds = [.ref a.1, .int a.2.2] ∧ RL m a.1 (a.2.1.map D.int) ∧ 0 ≤ a.2.2
  post := fun a m d m' => ∃ r, d = .int r ∧ m' = m
  exc := fun _ _ _ _ => False
theorem b_cell (T : Tb) : BodyOk (t_law_cell_at T) N_law_cell_at sp_cell 2 := by
  intro L a ds m k x hl hk hx hp hq he
  dsimp only [sp_cell] at hl hp hq he
  obtain ⟨p, l, n⟩ := a
  obtain ⟨rfl, h1, h2⟩ := hp
  dsimp only at *
  unfold t_law_cell_at
  walk_at "x"
  refine x_iD (fun h => ?_) (fun h => ?_)
  · walk_at "x"
    refine fx_M h1 h2 h (fun d hd _ => ?_)
    obtain ⟨i, _, rfl⟩ := List.mem_map.mp hd
    exact hq _ _ ⟨_, rfl, rfl⟩
  · walk_at "x"
    exact hq _ _ ⟨_, rfl, rfl⟩
def sp_stream : FSpec where
  al := Int × Int
  lev := fun _ => 0
  pre := fun a ds m => ds = [.int a.1, .int a.2]
  post := fun a m d m' => ∃ p row, d = .ref p ∧ m p = none ∧ m' = mset m p (.lst row) ∧ RowOk row
  exc := fun _ _ _ _ => False
theorem b_stream (T : Tb) : BodyOk (t_law_stream T) N_law_stream sp_stream 2 := by
  intro L a ds m k x hl hk hx hp hq he
  dsimp only [sp_stream] at hl hp hq he
  obtain ⟨c, w⟩ := a
  subst hp
  dsimp only at *
  unfold t_law_stream
  walk_at "x"
  refine x_iD (fun h => ?_) (fun h => ?_)
  · walk_at "x"
    rename_i z hz
    exact hq _ _ ⟨_, _, rfl, hz, rfl, _, _, rfl, .inl rfl⟩
  · walk_at "x"
    have h1 := Int.emod_lt_of_pos c (show (0:Int) < 536870909 by decide)
    have h2 := Int.emod_nonneg c (show (536870909:Int) ≠ 0 by decide)
    generalize c % 536870909 = b at *
    walk_at "x"
    have h3 := Int.emod_lt_of_pos (b * b) (show (0:Int) < 536870909 by decide)
    have h4 := Int.emod_nonneg (b * b) (show (536870909:Int) ≠ 0 by decide)
    generalize (b * b) % 536870909 = e at *
    walk_at "x"
    rename_i z hz
    exact hq _ _ ⟨_, _, rfl, hz, rfl, _, _, rfl, .inr ⟨Int.emod_nonneg _ (by decide), Int.emod_lt_of_pos _ (by decide)⟩⟩
theorem c_cell {T : Tb} {L : Nat} {m : Mp} {k : K3} {x : X3} {p : Addr} {l : List Int} {n : Int} (hT : T i_law_cell_at sp_cell) (hL : 0 < L) (h1 : RL m p (l.map D.int)) (h2 : 0 ≤ n)
    (hk : ∀ r, k (.int r) m) : callS T L i_law_cell_at [.ref p, .int n] m k x := by
  refine x_call hT ⟨p, l, n⟩ hL ⟨rfl, h1, h2⟩ ?_ (fun _ _ h => h.elim)
  rintro d m' ⟨r, rfl, rfl⟩
  exact hk r
theorem c_stream {T : Tb} {L : Nat} {m : Mp} {k : K3} {x : X3} {c w : Int} (hT : T i_law_stream sp_stream) (hL : 0 < L)
    (hk : ∀ p row, m p = none → RowOk row → k (.ref p) (mset m p (.lst row))) : callS T L i_law_stream [.int c, .int w] m k x := by
  refine x_call hT ⟨c, w⟩ hL rfl ?_ (fun _ _ h => h.elim)
  rintro d m' ⟨p, row, rfl, h, rfl, h'⟩
  exact hk p row h h'
/-! a number -/
def sp_number : FSpec where
  al := Addr × List D
  lev := fun _ => 1
  pre := fun a ds m => ds = [.ref a.1] ∧ m a.1 = some (.lst a.2) ∧ RowOk a.2
  post := fun a m d m' => ∃ r row', d = .int r ∧ NumOk r ∧ m' a.1 = some (.lst row') ∧ RowOk row' ∧ Fr [a.1] m m'
  exc := fun _ _ _ _ => False
theorem b_number (T : Tb) (hT : T i_law_take sp_take) : BodyOk (t_law_number T) N_law_number sp_number 1 := by
  intro L a ds m k x hl hk hx hp hq he
  dsimp only [sp_number] at hl hp hq he
  obtain ⟨p, row⟩ := a
  obtain ⟨rfl, h1, h2⟩ := hp
  dsimp only at *
  unfold t_law_number
  walk_at "x"
  refine c_take hT (by omega) (by walk_at "hp") h2 (by decide) (by decide) (fun r row' m' h3 h4 h5 h6 h7 => ?_)
  walk_at "x"
  refine x_iD (fun h => ?_) (fun h => ?_)
  · walk_at "x"
    refine c_take hT (by omega) (by walk_at "hp") h6 (by decide) (by decide) (fun r row2 m2 h3 h4 h5 h6 h7 => ?_)
    walk_at "x"
    exact hq _ _ ⟨_, _, rfl, ⟨by omega, by omega⟩, h5, h6, by walk_at "fr"⟩
  · walk_at "x"
    refine x_iD (fun h => ?_) (fun h => ?_)
    · walk_at "x"
      refine c_take hT (by omega) (by walk_at "hp") h6 (by decide) (by decide) (fun r2 row2 m2 i3 i4 i5 i6 i7 => ?_)
      walk_at "ix"; intro d hd _
      have : d = .int 1 ∨ d = .int (-1) := by simpa using hd
      rcases this with rfl | rfl
      all_goals
        walk_at "x"
        refine c_take hT (by omega) (by walk_at "hp") i6 (by decide) (by decide) (fun r2 row2 m2 i3 i4 i5 i6 i7 => ?_)
        walk_at "x"
        exact hq _ _ ⟨_, _, rfl, ⟨by omega, by omega⟩, i5, i6, by walk_at "fr"⟩
    · walk_at "x"
      refine x_iD (fun h => ?_) (fun h => ?_)
      · walk_at "x"
        refine c_take hT (by omega) (by walk_at "hp") h6 (by decide) (by decide) (fun r2 row2 m2 i3 i4 i5 i6 i7 => ?_)
        walk_at "ix"; intro d hd _
        have : ∃ j, d = .int j ∧ -1 ≤ j ∧ j ≤ 1 := by
          have : d = .int 1 ∨ d = .int (-1) := by simpa using hd
          rcases this with rfl | rfl
          · exact ⟨_, rfl, by decide, by decide⟩
          · exact ⟨_, rfl, by decide, by decide⟩
        obtain ⟨j, rfl, j1, j2⟩ := this
        walk_at "x"
        refine c_take hT (by omega) (by walk_at "hp") i6 (by decide) (by decide) (fun r3 row3 m3 l3 l4 l5 l6 l7 => ?_)
        walk_at "x"
        refine c_take hT (by omega) (by walk_at "hp") l6 (by decide) (by decide) (fun r4 row4 m4 o3 o4 o5 o6 o7 => ?_)
        walk_at "x"
        have hj : -1000000 < j * r3 ∧ j * r3 < 1000000 := by
          have : j = -1 ∨ j = 0 ∨ j = 1 := by omega
          rcases this with rfl | rfl | rfl <;> omega
        refine for3 (fun i s m5 => m5 = m4 ∧ ∃ v c, s = [some (.ref p), some (.int r), some (.int v), c] ∧ v < 10 ^ (i + 6) ∧ -(10 ^ (i + 6)) < v) ⟨rfl, _, _, rfl, by omega, by omega⟩ (fun _ _ _ _ _ => True.intro) ?_ ?_
        · rintro i d s m5 hd ⟨rfl, v, c, rfl, v1, v2⟩
          obtain ⟨h8, h9⟩ := rngD_get hd
          subst h9
          have := pow10_le (show i + 6 ≤ 30 by omega)
          have e : (10:Int) ^ (i + 1 + 6) = 10 ^ (i + 6) * 10 := Int.pow_succ ..
          walk_at "x"
          exact ⟨rfl, _, _, rfl, by rw [e]; omega, by rw [e]; omega⟩
        · rintro s m5 ⟨rfl, v, c, rfl, v1, v2⟩
          rw [rngD_length] at v1 v2
          have := pow10_le (show r4.toNat + 6 ≤ 30 by omega)
          walk_at "x"
          exact hq _ _ ⟨_, _, rfl, ⟨by omega, by omega⟩, o5, o6, by walk_at "fr"⟩
      · walk_at "x"
        refine c_take hT (by omega) (by walk_at "hp") h6 (by decide) (by decide) (fun r2 row2 m2 i3 i4 i5 i6 i7 => ?_)
        walk_at "x"
        refine c_take hT (by omega) (by walk_at "hp") i6 (by decide) (by decide) (fun r2 row2 m2 i3 i4 i5 i6 i7 => ?_)
        walk_at "x"
        exact hq _ _ ⟨_, _, rfl, by constructor <;> split <;> omega, i5, i6, by walk_at "fr"⟩

theorem c_number {T : Tb} {L : Nat} {m : Mp} {k : K3} {x : X3} {p : Addr} {row : List D} (hT : T i_law_number sp_number) (hL : 1 < L) (h1 : m p = some (.lst row)) (h2 : RowOk row)
    (hk : ∀ r row' m', NumOk r → m' p = some (.lst row') → RowOk row' → Fr [p] m m' → k (.int r) m') : callS T L i_law_number [.ref p] m k x := by
  refine x_call hT ⟨p, row⟩ hL ⟨rfl, h1, h2⟩ ?_ (fun _ _ h => h.elim)
  rintro d m' ⟨r, row', rfl, a, c, e, f⟩
  exact hk r row' m' a c e f
/-! a text -/
def sp_text : FSpec where
  al := Addr × List D
  lev := fun _ => 1
  pre := fun a ds m => ds = [.ref a.1] ∧ m a.1 = some (.lst a.2) ∧ RowOk a.2
  post := fun a m d m' => ∃ r row', d = .str r ∧ TxtOk r ∧ m' a.1 = some (.lst row') ∧ RowOk row' ∧ Fr [a.1] m m'
  exc := fun _ _ _ _ => False
theorem b_text (T : Tb) (hT : T i_law_take sp_take) : BodyOk (t_law_text T) N_law_text sp_text 1 := by
  intro L a ds m k x hl hk hx hp hq he
  dsimp only [sp_text] at hl hp hq he
  obtain ⟨p, row⟩ := a
  obtain ⟨rfl, h1, h2⟩ := hp
  dsimp only at *
  unfold t_law_text
  walk_at "x"
  have hs : (Str.ofString " !\"#$&'()*+,-./0123456789:;<=>?@ABCDEFGHIJKLMNOPQRSTUVWXYZ[\\]^_`" ++ Str.ofString "abcdefghijklmnopqrstuvwxyz{|}~").cps.toList.length = 94 ∧ ∀ c ∈ (Str.ofString " !\"#$&'()*+,-./0123456789:;<=>?@ABCDEFGHIJKLMNOPQRSTUVWXYZ[\\]^_`" ++ Str.ofString "abcdefghijklmnopqrstuvwxyz{|}~").cps.toList, SgOk c := by unfold SgOk; decide +kernel
  refine xf_addS' (by decide +kernel) ?_
  generalize Str.ofString " !\"#$&'()*+,-./0123456789:;<=>?@ABCDEFGHIJKLMNOPQRSTUVWXYZ[\\]^_`" ++ Str.ofString "abcdefghijklmnopqrstuvwxyz{|}~" = sg at *
  walk_at "x"
  refine c_take hT (by omega) (by walk_at "hp") h2 (by decide) (by decide) (fun r row2 m2 i3 i4 i5 i6 i7 => ?_)
  walk_at "ix"; intro d hd _
  have : ∃ j, d = .int j ∧ 1 ≤ j ∧ j ≤ 61 := by
    have : d = .int 4 ∨ d = .int 8 ∨ d = .int 61 ∨ d = .int 16 := by simpa using hd
    rcases this with rfl | rfl | rfl | rfl <;> exact ⟨_, rfl, by decide, by decide⟩
  obtain ⟨j, rfl, j1, j2⟩ := this
  walk_at "x"
  refine c_take hT (by omega) (by walk_at "hp") i6 (by omega) (by omega) (fun r3 row3 m3 l3 l4 l5 l6 l7 => ?_)
  walk_at "x"
  refine for3 (fun i s m5 => ∃ t c row5, s = [some (.ref p), some (.str sg), some (.str t), c] ∧ t.cps.toList.length ≤ i ∧ (∀ c ∈ t.cps.toList, SgOk c) ∧ m5 p = some (.lst row5) ∧ RowOk row5 ∧ Fr [p] m m5) ⟨_, _, _, rfl, Nat.zero_le _, fun c hc => (by cases hc), l5, l6, by walk_at "fr"⟩ (fun _ _ _ _ _ => True.intro) ?_ ?_
  · rintro i s d m5 hd ⟨t, c, row5, rfl, t1, t2, t3, t4, t5⟩
    obtain ⟨h8, h9⟩ := rngD_get hd
    subst h9
    walk_at "x"
    refine c_take hT (by omega) (by walk_at "hp") t4 (by decide) (by decide) (fun r4 row4 m4 o3 o4 o5 o6 o7 => ?_)
    refine fx_S (by omega) o3 (by omega) (fun c hc _ => ?_)
    refine xf_addS' (show _ + 1 ≤ _ by omega) ?_
    walk_at "x"
    refine ⟨_, _, _, rfl, ?_, ?_, o5, o6, by walk_at "fr"⟩
    · rw [str_app]; simp; omega
    · intro a ha
      rw [str_app] at ha
      rcases List.mem_append.mp ha with ha | ha
      · exact t2 a ha
      · have : a = c := by simpa using ha
        subst this; exact hs.2 a hc
  · rintro s m5 ⟨t, c, row5, rfl, t1, t2, t3, t4, t5⟩
    rw [rngD_length] at t1
    walk_at "x"
    exact hq _ _ ⟨_, _, rfl, ⟨by omega, t2⟩, t3, t4, t5⟩
theorem c_text {T : Tb} {L : Nat} {m : Mp} {k : K3} {x : X3} {p : Addr} {row : List D} (hT : T i_law_text sp_text) (hL : 1 < L) (h1 : m p = some (.lst row)) (h2 : RowOk row)
    (hk : ∀ r row' m', TxtOk r → m' p = some (.lst row') → RowOk row' → Fr [p] m m' → k (.str r) m') : callS T L i_law_text [.ref p] m k x := by
  refine x_call hT ⟨p, row⟩ hL ⟨rfl, h1, h2⟩ ?_ (fun _ _ h => h.elim)
  rintro d m' ⟨r, row', rfl, a, c, e, f⟩
  exact hk r row' m' a c e f
/-! a thing -/
def sp_thing : FSpec where
  al := (Addr × List D) × Nat × Addr × Int
  lev := fun a => a.2.1 + 2
  pre := fun a ds m => ds = [.ref a.1.1, .int a.2.1, .ref a.2.2.1] ∧ m a.1.1 = some (.lst a.1.2) ∧ RowOk a.1.2 ∧ m a.2.2.1 = some (.lst [.int a.2.2.2]) ∧ a.1.1 ≠ a.2.2.1 ∧ 1 ≤ a.2.2.2
  post := fun a m d m' => ∃ row' k, Fine a.2.1 d ∧ m' a.1.1 = some (.lst row') ∧ RowOk row' ∧ m' a.2.2.1 = some (.lst [.int k]) ∧ 0 ≤ k ∧ d.sz + k ≤ a.2.2.2 ∧ Fr [a.1.1, a.2.2.1] m m'
  exc := fun _ _ _ _ => False
theorem c_thing {T : Tb} {L : Nat} {m : Mp} {k : K3} {x : X3} {p q : Addr} {row : List D} {deep : Nat} {n : Int} (hT : T i_law_thing sp_thing) (hL : deep + 2 < L) (h1 : m p = some (.lst row)) (h2 : RowOk row) (h3 : m q = some (.lst [.int n])) (h4 : p ≠ q) (h5 : 1 ≤ n)
    (hk : ∀ d row' j m', Fine deep d → m' p = some (.lst row') → RowOk row' → m' q = some (.lst [.int j]) → 0 ≤ j → d.sz + j ≤ n → Fr [p, q] m m' → k d m') : callS T L i_law_thing [.ref p, .int deep, .ref q] m k x := by
  refine x_call hT ⟨(p, row), deep, q, n⟩ hL ⟨rfl, h1, h2, h3, h4, h5⟩ ?_ (fun _ _ h => h.elim)
  rintro d m' ⟨row', j, a, b, c, e, f, g, h⟩
  exact hk d row' j m' a b c e f g h
theorem b_thing (T : Tb) (hT : T i_law_take sp_take) (hN : T i_law_number sp_number) (hX : T i_law_text sp_text) (hS : T i_law_thing sp_thing) : BodyOk (t_law_thing T) N_law_thing sp_thing 3 := by
  intro L a ds m k x hl hk hx hp hq he
  dsimp only [sp_thing] at hl hp hq he
  obtain ⟨⟨p, row⟩, deep, q, n⟩ := a
  obtain ⟨rfl, h1, h2, h3, h4, h5⟩ := hp
  dsimp only at *
  unfold t_law_thing
  walk_at "x"
  refine c_take hT (by omega) (by walk_at "hp") h2 (by decide) (by decide) (fun r row2 m2 i3 i4 i5 i6 i7 => ?_)
  have hq2 : m2 q = some (.lst [.int (n - 1)]) := i7.at (by walk_at "ni") mset_same
  have hf : Fr [p, q] m m2 := by walk_at "fr"
  walk_at "x"
  have hnum : callS T L i_law_number [.ref p] m2 k x := by
    refine c_number hN (by omega) i5 i6 (fun r3 row3 m3 l3 l5 l6 l7 => ?_)
    exact hq _ _ ⟨_, _, Fine.int l3, l5, l6, l7.at (by walk_at "ni") hq2, by omega, by simp [D.sz]; omega, by walk_at "fr"⟩
  refine x_iD (fun h => ?_) (fun h => ?_)
  · walk_at "x"
    exact hq _ _ ⟨_, _, Fine.non, i5, i6, hq2, by omega, by simp [D.sz]; omega, hf⟩
  walk_at "x"
  refine x_iD (fun h => ?_) (fun h3 => ?_)
  · walk_at "x"
    exact hnum
  walk_at "x"
  refine x_iD (fun h6 => ?_) (fun h6 => ?_)
  case refine_2 =>
    walk_at "x"
    refine x_iD (fun _ => ?_) (fun h => absurd (show r < 5 by omega) h)
    walk_at "x"
    refine c_text hX (by omega) i5 i6 (fun r3 row3 m3 l3 l5 l6 l7 => ?_)
    exact hq _ _ ⟨_, _, Fine.str l3, l5, l6, l7.at (by walk_at "ni") hq2, by omega, by simp [D.sz]; omega, by walk_at "fr"⟩
  walk_at "x"
  refine x_iD (fun h => ?_) (fun h7 => ?_)
  · walk_at "x"
    exact hnum
  walk_at "x"
  refine x_iD (fun h => ?_) (fun h8 => ?_)
  · walk_at "x"
    exact hnum
  walk_at "x"
  refine x_iD (fun h => by omega) (fun _ => ?_)
  walk_at "x"
  rename_i z hz y hy
  have hzp : z ≠ p := by walk_at "ne"
  have hzq : z ≠ q := by walk_at "ne"
  have hyz : y ≠ z := by walk_at "ne"
  refine c_take hT (by omega) (by walk_at "hp") i6 (by decide) (by decide) (fun r3 row3 m3 l3 l4 l5 l6 l7 => ?_)
  walk_at "ix"; intro d hd _
  have : ∃ j, d = .int j ∧ 1 ≤ j ∧ j ≤ 41 := by
    have : d = .int 4 ∨ d = .int 41 := by simpa using hd
    rcases this with rfl | rfl <;> exact ⟨_, rfl, by decide, by decide⟩
  obtain ⟨j, rfl, j1, j2⟩ := this
  walk_at "x"
  refine c_take hT (by omega) (by walk_at "hp") l6 (by omega) (by omega) (fun r4 row4 m4 o3 o4 o5 o6 o7 => ?_)
  walk_at "x"
  obtain ⟨dp, rfl⟩ : ∃ dp, deep = dp + 1 := ⟨deep - 1, by omega⟩
  refine for3 (fun i s m5 => ∃ ts j c row5, s = [some (.ref p), some (.int (dp + 1 : Nat)), some (.ref q), some (.int r), some (.ref z), c] ∧ ts.length ≤ i ∧ (∀ d ∈ ts, Fine dp d) ∧ (D.szs ts : Int) + j ≤ n - 1 ∧ 0 ≤ j ∧ m5 z = some (.lst ts) ∧ m5 p = some (.lst row5) ∧ RowOk row5 ∧ m5 q = some (.lst [.int j]) ∧ Fr [p, q] m m5)
    ⟨[], n - 1, _, _, rfl, Nat.zero_le _, fun c hc => (by cases hc), by simp [D.szs], by omega, by walk_at "hp", o5, o6, by walk_at "hp", by walk_at "fr"⟩ (fun _ _ _ _ _ => True.intro) ?_ ?_
  · rintro i s d m5 hd ⟨ts, j, c, row5, rfl, t1, t2, t3, t4, t5, t6, t7, t8, t9⟩
    obtain ⟨u1, u2⟩ := rngD_get hd
    subst u2
    walk_at "x"
    refine x_iD (fun h => ?_) (fun h => ?_)
    · walk_at "x"
      rw [show ((dp + 1 : Nat) : Int) - 1 = (dp : Int) by omega]
      refine c_thing hS (by omega) t6 t7 t8 h4 (by omega) (fun d row6 j' m6 v1 v2 v3 v4 v5 v6 v7 => ?_)
      walk_at "x"
      refine ⟨ts ++ [d], j', _, row6, rfl, by simp; omega, ?_, by rw [szs_app]; simp [D.szs]; omega, v5, by walk_at "hp", by walk_at "hp", v3, by walk_at "hp", by walk_at "fr"⟩
      intro e he
      rcases List.mem_append.mp he with he | he
      · exact t2 e he
      · have : e = d := by simpa using he
        subst this; exact v1
    · walk_at "x"
      exact ⟨ts, j, _, row5, rfl, by omega, t2, t3, t4, t5, t6, t7, t8, t9⟩
  · rintro s m5 ⟨ts, j, c, row5, rfl, t1, t2, t3, t4, t5, t6, t7, t8, t9⟩
    rw [rngD_length] at t1
    walk_at "x"
    exact hq _ _ ⟨_, _, Fine.tup (by omega) t2, t6, t7, t8, t4, by simp [D.sz]; omega, t9⟩

/-! k01: anything -/
-- uses PvLy
-- uses PvLx
-- uses PvLw
-- uses PvLv
-- uses PvLu
-- uses PvLt
-- uses PvLs
-- uses PvLr
-- uses PvLq
-- uses PvLp
-- uses PvLo
-- uses PvLn
-- uses PvLm
-- uses PvLl
-- uses PvLk
-- uses PvLj
-- uses PvLi
-- uses PvLh
-- uses PvLg
/-- what is no tuple; a hand at p leaves it alone -/
def Lf (p : Addr) (m : Mp) (d : D) : Prop := d = .non ∨ (∃ b, d = .bl b) ∨ (∃ i, d = .int i ∧ -(2 ^ 300) < i ∧ i < 2 ^ 300) ∨ (∃ z, d = .str z ∧ z.cps.toList.length ≤ 1000 ∧ ∀ c ∈ z.cps.toList, c ≠ 37) ∨
  ∃ q, d = .ref q ∧ q ≠ p ∧ ((∃ l, m q = some (.lst l)) ∨ m q = some (.dK []) ∨ m q = some (.exc "NoThing" none))
def An (p : Addr) (m : Mp) : Nat → D → Prop
  | n + 1, .tup l => l.length ≤ 1000 ∧ ∀ e ∈ l, An p m n e
  | 0, .tup _ => False
  | _, d => Lf p m d
theorem An.leaf {p : Addr} {m : Mp} {n : Nat} {d : D} (h : Lf p m d) : An p m n d := by
  rcases id h with rfl | ⟨b, rfl⟩ | ⟨i, rfl, _⟩ | ⟨z, rfl, _⟩ | ⟨q, rfl, _⟩ <;> (cases n <;> exact h)
theorem An.cases {p : Addr} {m : Mp} {n : Nat} {d : D} (h : An p m n d) : Lf p m d ∨ ∃ l k, d = .tup l ∧ n = k + 1 ∧ l.length ≤ 1000 ∧ ∀ e ∈ l, An p m k e := by
  cases d with
  | tup l =>
    cases n with
    | zero => exact h.elim
    | succ n => exact .inr ⟨l, n, rfl, rfl, h.1, h.2⟩
  | _ => cases n <;> exact .inl h
theorem An.tup {p : Addr} {m : Mp} {n : Nat} {l : List D} (h : l.length ≤ 1000) (h' : ∀ e ∈ l, An p m n e) : An p m (n + 1) (.tup l) := ⟨h, h'⟩
theorem Lf.mono {p : Addr} {m m' : Mp} {d : D} (h : Lf p m d) (f : ∀ q o, q ≠ p → m q = some o → m' q = some o) : Lf p m' d := by
  rcases h with h | h | h | h | ⟨q, h1, h2, h3⟩
  · exact .inl h
  · exact .inr (.inl h)
  · exact .inr (.inr (.inl h))
  · exact .inr (.inr (.inr (.inl h)))
  · refine .inr (.inr (.inr (.inr ⟨q, h1, h2, ?_⟩)))
    rcases h3 with ⟨l, h3⟩ | h3 | h3
    · exact .inl ⟨l, f q _ h2 h3⟩
    · exact .inr (.inl (f q _ h2 h3))
    · exact .inr (.inr (f q _ h2 h3))
theorem An.mono {p : Addr} {m m' : Mp} : ∀ {n : Nat} {d : D}, An p m n d → (∀ q o, q ≠ p → m q = some o → m' q = some o) → An p m' n d
  | n, d, h, f => by
    rcases h.cases with h | ⟨l, k, rfl, rfl, h1, h2⟩
    · exact .leaf (h.mono f)
    · exact .tup h1 fun e he => An.mono (h2 e he) f
theorem An.fr {p : Addr} {m m' : Mp} {n : Nat} {d : D} (h : An p m n d) (f : Fr [p] m m') : An p m' n d := h.mono fun q o hq e => f.at (fun z => hq (List.mem_singleton.mp z)) e
theorem An.fr0 {p : Addr} {m m' : Mp} {n : Nat} {d : D} (h : An p m n d) (f : Fr [] m m') : An p m' n d := h.mono fun q o _ e => f.at ni_nil e
theorem An.le {p : Addr} {m : Mp} : ∀ {n k : Nat} {d : D}, An p m n d → n ≤ k → An p m k d
  | n, k, d, h, hk => by
    rcases h.cases with h | ⟨l, j, rfl, rfl, h1, h2⟩
    · exact .leaf h
    · obtain ⟨k, rfl⟩ : ∃ i, k = i + 1 := ⟨k - 1, by omega⟩
      exact .tup h1 fun e he => An.le (h2 e he) (by omega)
theorem Fine.an {p : Addr} {m : Mp} : ∀ {n : Nat} {d : D}, Fine n d → An p m n d
  | n, d, h => by
    rcases h.cases with rfl | ⟨i, rfl, hi⟩ | ⟨z, rfl, hz⟩ | ⟨l, k, rfl, rfl, h1, h2⟩
    · exact .leaf (.inl rfl)
    · refine .leaf (.inr (.inr (.inl ⟨i, rfl, ?_, ?_⟩)))
      · have := hi.1; omega
      · have := hi.2; omega
    · exact .leaf (.inr (.inr (.inr (.inl ⟨z, rfl, by have := hz.1; omega, fun c hc => (hz.2 c hc).2.2⟩))))
    · exact .tup (by omega) fun e he => Fine.an (h2 e he)
/-- is it of a kind -/
def isB : D → String → Bool
  | .int _, T => T == "int"
  | .bl _, T => T == "int" || T == "bool"
  | .str _, T => T == "str"
  | .tup _, T => T == "tuple"
  | _, _ => false
theorem xf_isA {p : Addr} {n : Nat} {d : D} {T : String} {m : Mp} {k : K3} {b : Bool} (h : An p m n d) (hT : T = "int" ∨ T = "bool" ∨ T = "str" ∨ T = "tuple") (hb : isB d T = b) (hk : k (.bl b) m) : fIsiX [d, .ty T] m k := by
  subst hb
  rcases h.cases with (rfl | ⟨b, rfl⟩ | ⟨i, rfl, _⟩ | ⟨z, rfl, _⟩ | ⟨q, rfl, _, ⟨l, hq⟩ | hq | hq⟩) | ⟨l, j, rfl, _⟩
  · rcases hT with rfl | rfl | rfl | rfl <;> exact .inl ⟨_, _, "NoneType", false, rfl, .non, by decide +kernel, hk⟩
  · rcases hT with rfl | rfl | rfl | rfl
    · exact .inl ⟨_, _, "bool", true, rfl, .bl b, by decide +kernel, hk⟩
    · exact .inl ⟨_, _, "bool", true, rfl, .bl b, by decide +kernel, hk⟩
    · exact .inl ⟨_, _, "bool", false, rfl, .bl b, by decide +kernel, hk⟩
    · exact .inl ⟨_, _, "bool", false, rfl, .bl b, by decide +kernel, hk⟩
  · rcases hT with rfl | rfl | rfl | rfl
    · exact .inl ⟨_, _, "int", true, rfl, .int i, by decide +kernel, hk⟩
    · exact .inl ⟨_, _, "int", false, rfl, .int i, by decide +kernel, hk⟩
    · exact .inl ⟨_, _, "int", false, rfl, .int i, by decide +kernel, hk⟩
    · exact .inl ⟨_, _, "int", false, rfl, .int i, by decide +kernel, hk⟩
  · rcases hT with rfl | rfl | rfl | rfl
    · exact .inl ⟨_, _, "str", false, rfl, .str z, by decide +kernel, hk⟩
    · exact .inl ⟨_, _, "str", false, rfl, .str z, by decide +kernel, hk⟩
    · exact .inl ⟨_, _, "str", true, rfl, .str z, by decide +kernel, hk⟩
    · exact .inl ⟨_, _, "str", false, rfl, .str z, by decide +kernel, hk⟩
  · rcases hT with rfl | rfl | rfl | rfl <;> exact .inl ⟨_, _, "list", false, rfl, .lst (.inl hq), by decide +kernel, hk⟩
  · rcases hT with rfl | rfl | rfl | rfl <;> exact .inl ⟨_, _, "dict", false, rfl, .dK hq, by decide +kernel, hk⟩
  · rcases hT with rfl | rfl | rfl | rfl <;> exact xf_isiE hq (by decide) hk
  · rcases hT with rfl | rfl | rfl | rfl
    · exact .inl ⟨_, _, "tuple", false, rfl, .tup l, by decide +kernel, hk⟩
    · exact .inl ⟨_, _, "tuple", false, rfl, .tup l, by decide +kernel, hk⟩
    · exact .inl ⟨_, _, "tuple", false, rfl, .tup l, by decide +kernel, hk⟩
    · exact .inl ⟨_, _, "tuple", true, rfl, .tup l, by decide +kernel, hk⟩
/-! the program: is_number, is_text, is_within, is_thing -/
open Classical in
noncomputable def numB : D → Bool
  | .int i => decide (NumOk i)
  | _ => false
open Classical in
noncomputable def txtB : D → Bool
  | .str z => decide (TxtOk z)
  | _ => false
theorem txtB_T {z : Str} (h : TxtOk z) : txtB (.str z) = true := by unfold txtB; exact @decide_eq_true _ (Classical.propDecidable _) h
theorem txtB_F {z : Str} (h : ¬ TxtOk z) : txtB (.str z) = false := by unfold txtB; exact @decide_eq_false _ (Classical.propDecidable _) h
theorem numB_T {i : Int} (h : NumOk i) : numB (.int i) = true := by unfold numB; exact @decide_eq_true _ (Classical.propDecidable _) h
theorem numB_F {i : Int} (h : ¬ NumOk i) : numB (.int i) = false := by unfold numB; exact @decide_eq_false _ (Classical.propDecidable _) h
structure AnA where
  p : Addr
  n : Nat
  d : D
def sp_isnum : FSpec where
  al := AnA
  lev := fun _ => 0
  pre := fun a ds m => ds = [a.d] ∧ An a.p m a.n a.d
  post := fun a m d m' => m' = m ∧ d = .bl (numB a.d)
  exc := fun _ _ _ _ => False
theorem dcT {P : Prop} (h : P) : @decide P (Classical.propDecidable P) = true := @decide_eq_true P (Classical.propDecidable P) h
theorem dcF {P : Prop} (h : ¬ P) : @decide P (Classical.propDecidable P) = false := @decide_eq_false P (Classical.propDecidable P) h
theorem b_isnum (T : Tb) : BodyOk (t_is_number T) N_is_number sp_isnum 1 := by
  rintro L ⟨p, n, d⟩ ds m k x hl hk hx hp hq he
  dsimp only [sp_isnum] at hl hp hq he
  obtain ⟨rfl, hA⟩ := hp
  unfold t_is_number
  walk_at "x"
  rcases id hA.cases with (rfl | ⟨b, rfl⟩ | ⟨i, rfl, hi1, hi2⟩ | ⟨z, rfl, _⟩ | ⟨q, rfl, _⟩) | ⟨l, j, rfl, _⟩
  · refine xf_isA (b := false) hA (.inl rfl) rfl ?_
    walk_at "x"
    exact hq _ _ ⟨rfl, rfl⟩
  · refine xf_isA (b := true) hA (.inl rfl) rfl ?_
    walk_at "x"
    refine xf_isA (b := true) hA (.inr (.inl rfl)) rfl ?_
    walk_at "x"
    exact hq _ _ ⟨rfl, rfl⟩
  · refine xf_isA (b := true) hA (.inl rfl) rfl ?_
    walk_at "x"
    refine xf_isA (b := false) hA (.inr (.inl rfl)) rfl ?_
    walk_at "x"
    by_cases g1 : -1000000000000000000000000000000 ≤ i
    rotate_left
    · rw [decide_eq_false g1]
      walk_at "x"
      exact hq _ _ ⟨rfl, by rw [numB_F fun w => g1 w.1]⟩
    rw [decide_eq_true g1]
    walk_at "x"
    refine hq _ _ ⟨rfl, ?_⟩
    by_cases g2 : i ≤ 1000000000000000000000000000000
    · rw [decide_eq_true g2, numB_T ⟨g1, g2⟩]
    · rw [decide_eq_false g2, numB_F fun w => g2 w.2]
  · refine xf_isA (b := false) hA (.inl rfl) rfl ?_
    walk_at "x"
    exact hq _ _ ⟨rfl, rfl⟩
  · refine xf_isA (b := false) hA (.inl rfl) rfl ?_
    walk_at "x"
    exact hq _ _ ⟨rfl, rfl⟩
  · refine xf_isA (b := false) hA (.inl rfl) rfl ?_
    walk_at "x"
    exact hq _ _ ⟨rfl, rfl⟩
theorem c_isnum {T : Tb} {L : Nat} {m : Mp} {k : K3} {x : X3} {p : Addr} {n : Nat} {d : D} (hT : T i_is_number sp_isnum) (hL : 0 < L) (h : An p m n d) (hk : k (.bl (numB d)) m) : callS T L i_is_number [d] m k x := by
  refine x_call hT ⟨p, n, d⟩ hL ⟨rfl, h⟩ ?_ (fun _ _ h => h.elim)
  rintro _ m' ⟨rfl, rfl⟩
  exact hk
def sp_istext : FSpec where
  al := AnA
  lev := fun _ => 0
  pre := fun a ds m => ds = [a.d] ∧ An a.p m a.n a.d
  post := fun a m d m' => m' = m ∧ d = .bl (txtB a.d)
  exc := fun _ _ _ _ => False
theorem b_istext (T : Tb) : BodyOk (t_is_text T) N_is_text sp_istext 1 := by
  rintro L ⟨p, n, d⟩ ds m k x hl hk hx hp hq he
  dsimp only [sp_istext] at hl hp hq he
  obtain ⟨rfl, hA⟩ := hp
  unfold t_is_text
  walk_at "x"
  by_cases hs : ∃ z, d = .str z
  rotate_left
  · have e : txtB d = false := by
      cases d with
      | str z => exact absurd ⟨z, rfl⟩ hs
      | _ => rfl
    refine xf_isA (b := false) hA (.inr (.inr (.inl rfl))) (by cases d with
      | str z => exact absurd ⟨z, rfl⟩ hs
      | _ => rfl) ?_
    walk_at "x"
    exact hq _ _ ⟨rfl, by rw [e]⟩
  obtain ⟨z, rfl⟩ := hs
  obtain ⟨hz1, hz2⟩ : z.cps.toList.length ≤ 1000 ∧ ∀ c ∈ z.cps.toList, c ≠ 37 := by
    rcases id hA.cases with (h | ⟨b, h⟩ | ⟨i, h, _⟩ | ⟨z', h, a, b⟩ | ⟨q, h, _⟩) | ⟨l, j, h, _⟩
    all_goals cases h
    exact ⟨a, b⟩
  have no : ¬ TxtOk z → k (.bl false) m := fun h => hq _ _ ⟨rfl, by rw [txtB_F h]⟩
  refine xf_isA (b := true) hA (.inr (.inr (.inl rfl))) rfl ?_
  walk_at "x"
  refine xf_lenS' (by omega) ?_
  walk_at "x"
  refine x_iD (fun h => ?_) (fun h60 => ?_)
  · walk_at "x"
    exact no fun w => by have := w.1; omega
  walk_at "x"
  refine for3 (fun i s m5 => m5 = m ∧ (∃ c2, s = [some (.str z), c2]) ∧ ∀ c ∈ z.cps.toList.take i, SgOk c) ⟨rfl, ⟨_, rfl⟩, fun c hc => (by cases hc)⟩ (fun _ _ _ _ _ => True.intro) ?_ ?_
  · rintro i d s m5 hd ⟨rfl, ⟨c3, rfl⟩, h2⟩
    obtain ⟨c, hc, rfl⟩ := signs_get hd
    walk_at "x"
    have hcm := List.mem_of_getElem? hc
    by_cases g1 : 32 ≤ c
    rotate_left
    · rw [decide_eq_false (show ¬ (32 : Int) ≤ (c : Int) by omega)]
      walk_at "x"
      exact no fun w => g1 (w.2 c hcm).1
    rw [decide_eq_true (show (32 : Int) ≤ (c : Int) by omega)]
    walk_at "x"
    by_cases g2 : c ≤ 126
    rotate_left
    · rw [decide_eq_false (show ¬ (c : Int) ≤ 126 by omega)]
      walk_at "x"
      exact no fun w => g2 (w.2 c hcm).2.1
    rw [decide_eq_true (show (c : Int) ≤ 126 by omega)]
    walk_at "x"
    have g3 := hz2 c hcm
    rw [decide_eq_false (show ¬ (c : Int) = 37 by omega)]
    walk_at "x"
    refine ⟨rfl, ⟨_, rfl⟩, fun e he' => ?_⟩
    rw [List.take_add_one, hc] at he'
    rcases List.mem_append.mp he' with he' | he'
    · exact h2 e he'
    · rw [List.mem_singleton.mp he']; exact ⟨g1, g2, g3⟩
  · rintro s m5 ⟨rfl, ⟨c3, rfl⟩, h2⟩
    rw [signs_length, List.take_length] at h2
    walk_at "x"
    exact hq _ _ ⟨rfl, by rw [txtB_T (show TxtOk z from ⟨by omega, h2⟩)]⟩
theorem c_istext {T : Tb} {L : Nat} {m : Mp} {k : K3} {x : X3} {p : Addr} {n : Nat} {d : D} (hT : T i_is_text sp_istext) (hL : 0 < L) (h : An p m n d) (hk : k (.bl (txtB d)) m) : callS T L i_is_text [d] m k x := by
  refine x_call hT ⟨p, n, d⟩ hL ⟨rfl, h⟩ ?_ (fun _ _ h => h.elim)
  rintro _ m' ⟨rfl, rfl⟩
  exact hk
def sp_within : FSpec where
  al := AnA × Nat
  lev := fun a => a.2 + 1
  pre := fun a ds m => ds = [a.1.d, .int (a.2 : Nat)] ∧ An a.1.p m a.1.n a.1.d
  post := fun a m d m' => m' = m ∧ d = .bl (@decide (Fine a.2 a.1.d) (Classical.propDecidable _))
  exc := fun _ _ _ _ => False
theorem c_within {T : Tb} {L : Nat} {m : Mp} {k : K3} {x : X3} {p : Addr} {n j : Nat} {d : D} (hT : T i_is_within sp_within) (hL : j + 1 < L) (h : An p m n d) (hk : k (.bl (@decide (Fine j d) (Classical.propDecidable _))) m) : callS T L i_is_within [d, .int (j : Nat)] m k x := by
  refine x_call hT (⟨p, n, d⟩, j) hL ⟨rfl, h⟩ ?_ (fun _ _ h => h.elim)
  rintro _ m' ⟨rfl, rfl⟩
  exact hk
theorem b_within (T : Tb) (hN : T i_is_number sp_isnum) (hX : T i_is_text sp_istext) (hT : T i_is_within sp_within) : BodyOk (t_is_within T) N_is_within sp_within 2 := by
  rintro L ⟨⟨p, n, d⟩, j⟩ ds m k x hl hk hx hp hq he
  dsimp only [sp_within] at hl hp hq he
  obtain ⟨rfl, hA⟩ := hp
  have yes : Fine j d → k (.bl true) m := fun h => hq _ _ ⟨rfl, by rw [dcT h]⟩
  have no : ¬ Fine j d → k (.bl false) m := fun h => hq _ _ ⟨rfl, by rw [dcF h]⟩
  rcases id hA.cases with (rfl | ⟨b, rfl⟩ | ⟨i, rfl, hi1, hi2⟩ | ⟨z, rfl, _⟩ | ⟨q, rfl, _⟩) | ⟨l, n', rfl, rfl, hl1, hl2⟩
  · unfold t_is_within
    walk_at "x"
    exact yes Fine.non
  · unfold t_is_within
    walk_at "x"
    refine c_isnum hN (by omega) hA ?_
    rw [show numB (.bl b) = false from rfl]
    walk_at "x"
    refine c_istext hX (by omega) hA ?_
    rw [show txtB (.bl b) = false from rfl]
    walk_at "x"
    refine xf_isA (b := false) hA (.inr (.inr (.inr rfl))) rfl ?_
    walk_at "x"
    exact no fun h => by cases j <;> exact h.elim
  · by_cases hi : NumOk i
    · unfold t_is_within
      walk_at "x"
      refine c_isnum hN (by omega) hA ?_
      rw [numB_T hi]
      walk_at "x"
      exact yes (Fine.int hi)
    unfold t_is_within
    walk_at "x"
    refine c_isnum hN (by omega) hA ?_
    rw [numB_F hi]
    walk_at "x"
    refine c_istext hX (by omega) hA ?_
    rw [show txtB (.int i) = false from rfl]
    walk_at "x"
    refine xf_isA (b := false) hA (.inr (.inr (.inr rfl))) rfl ?_
    walk_at "x"
    exact no fun h => hi h.num
  · by_cases hz : TxtOk z
    · unfold t_is_within
      walk_at "x"
      refine c_isnum hN (by omega) hA ?_
      rw [show numB (.str z) = false from rfl]
      walk_at "x"
      refine c_istext hX (by omega) hA ?_
      rw [txtB_T hz]
      walk_at "x"
      exact yes (Fine.str hz)
    unfold t_is_within
    walk_at "x"
    refine c_isnum hN (by omega) hA ?_
    rw [show numB (.str z) = false from rfl]
    walk_at "x"
    refine c_istext hX (by omega) hA ?_
    rw [txtB_F hz]
    walk_at "x"
    refine xf_isA (b := false) hA (.inr (.inr (.inr rfl))) rfl ?_
    walk_at "x"
    exact no fun h => hz h.txt
  · unfold t_is_within
    walk_at "x"
    refine c_isnum hN (by omega) hA ?_
    rw [show numB (.ref q) = false from rfl]
    walk_at "x"
    refine c_istext hX (by omega) hA ?_
    rw [show txtB (.ref q) = false from rfl]
    walk_at "x"
    refine xf_isA (b := false) hA (.inr (.inr (.inr rfl))) rfl ?_
    walk_at "x"
    exact no fun h => by cases j <;> exact h.elim
  · unfold t_is_within
    walk_at "x"
    refine c_isnum hN (by omega) hA ?_
    rw [show numB (.tup l) = false from rfl]
    walk_at "x"
    refine c_istext hX (by omega) hA ?_
    rw [show txtB (.tup l) = false from rfl]
    walk_at "x"
    refine xf_isA (b := true) hA (.inr (.inr (.inr rfl))) rfl ?_
    walk_at "x"
    cases j with
    | zero =>
      walk_at "x"
      exact no fun h => h.elim
    | succ j =>
    walk_at "x"
    refine x_iD (fun h => ?_) (fun h40 => ?_)
    · walk_at "x"
      exact no fun w => by have := w.1; omega
    walk_at "x"
    refine for3 (fun i s m5 => m5 = m ∧ (∃ c2, s = [some (.tup l), some (.int (j + 1 : Nat)), c2]) ∧ ∀ e ∈ l.take i, Fine j e) ⟨rfl, ⟨_, rfl⟩, fun c hc => (by cases hc)⟩ (fun _ _ _ _ _ => True.intro) ?_ ?_
    · rintro i e s m5 hd ⟨rfl, ⟨c3, rfl⟩, h2⟩
      have hm := List.mem_of_getElem? hd
      walk_at "x"
      rw [show ((j + 1 : Nat) : Int) - 1 = (j : Nat) by omega]
      refine c_within hT (by omega) (hl2 e hm) ?_
      by_cases hf : Fine j e
      · rw [dcT hf]
        walk_at "x"
        refine ⟨rfl, ⟨_, rfl⟩, fun e' he' => ?_⟩
        rw [List.take_add_one, hd] at he'
        rcases List.mem_append.mp he' with he' | he'
        · exact h2 e' he'
        · rw [List.mem_singleton.mp he']; exact hf
      · rw [dcF hf]
        walk_at "x"
        exact no fun w => hf (w.2 e hm)
    · rintro s m5 ⟨rfl, ⟨c3, rfl⟩, h2⟩
      rw [List.take_length] at h2
      walk_at "x"
      exact yes (Fine.tup (by omega) h2)
def sp_isthing : FSpec where
  al := AnA
  lev := fun _ => 7
  pre := fun a ds m => ds = [a.d] ∧ An a.p m a.n a.d
  post := fun a m d m' => m' = m ∧ d = .bl (@decide (Fine 5 a.d) (Classical.propDecidable _))
  exc := fun _ _ _ _ => False
theorem b_isthing (T : Tb) (hW : T i_is_within sp_within) : BodyOk (t_is_thing T) N_is_thing sp_isthing 1 := by
  rintro L ⟨p, n, d⟩ ds m k x hl hk hx hp hq he
  dsimp only [sp_isthing] at hl hp hq he
  obtain ⟨rfl, hA⟩ := hp
  unfold t_is_thing
  walk_at "x"
  refine c_within (j := 5) hW (by omega) hA ?_
  exact hq _ _ ⟨rfl, rfl⟩
theorem c_isthing {T : Tb} {L : Nat} {m : Mp} {k : K3} {x : X3} {p : Addr} {n : Nat} {d : D} (hT : T i_is_thing sp_isthing) (hL : 7 < L) (h : An p m n d) (hk : k (.bl (@decide (Fine 5 d) (Classical.propDecidable _))) m) : callS T L i_is_thing [d] m k x := by
  refine x_call hT ⟨p, n, d⟩ hL ⟨rfl, h⟩ ?_ (fun _ _ h => h.elim)
  rintro _ m' ⟨rfl, rfl⟩
  exact hk

/-! k01: the law's depth, and whether all is fine -/
mutual
def dpt : D → Nat
  | .tup l => 1 + dpts l
  | _ => 0
def dpts : List D → Nat
  | [] => 0
  | d :: l => max (dpt d) (dpts l)
end
theorem dpts_le {k : Nat} : ∀ {l : List D}, dpts l ≤ k ↔ ∀ e ∈ l, dpt e ≤ k
  | [] => ⟨(fun _ e h => nomatch h), fun _ => Nat.zero_le _⟩
  | d :: l => by
    have e : dpts (d :: l) = max (dpt d) (dpts l) := by rw [dpts]
    have ih := dpts_le (k := k) (l := l)
    rw [e]
    constructor
    · intro h y hy
      rcases List.mem_cons.mp hy with rfl | hy
      · omega
      · exact ih.mp (by omega) y hy
    · intro h
      have h1 := h d List.mem_cons_self
      have h2 := ih.mpr fun y hy => h y (List.mem_cons_of_mem _ hy)
      omega
theorem dpts_mem : ∀ {l : List D}, dpts l = 0 ∨ ∃ e ∈ l, dpts l = dpt e
  | [] => .inl rfl
  | d :: l => by
    have e : dpts (d :: l) = max (dpt d) (dpts l) := by rw [dpts]
    rw [e]
    rcases Nat.le_total (dpts l) (dpt d) with h | h
    · exact .inr ⟨d, List.mem_cons_self, by omega⟩
    · rcases dpts_mem (l := l) with z | ⟨y, hy, z⟩
      · exact .inl (by omega)
      · exact .inr ⟨y, List.mem_cons_of_mem _ hy, by omega⟩
mutual
def fnD : D → Prop
  | .tup l => l.length ≤ 40 ∧ fnDs l
  | .non => True
  | .int i => NumOk i
  | .str z => z.cps.toList.length < 61 ∧ ∀ c ∈ z.cps.toList, 32 ≤ c ∧ c ≤ 126
  | _ => False
def fnDs : List D → Prop
  | [] => True
  | d :: l => fnD d ∧ fnDs l
end
theorem fnDs_all : ∀ {l : List D}, fnDs l ↔ ∀ e ∈ l, fnD e
  | [] => ⟨fun _ e h => (by cases h), fun _ => by rw [fnDs]; trivial⟩
  | d :: l => by
    rw [fnDs, fnDs_all]
    exact ⟨fun h y hy => (List.mem_cons.mp hy).elim (fun e => e ▸ h.1) (h.2 y), fun h => ⟨h d List.mem_cons_self, fun y hy => h y (List.mem_cons_of_mem _ hy)⟩⟩
theorem fn_tup {l : List D} : fnD (.tup l) ↔ l.length ≤ 40 ∧ ∀ e ∈ l, fnD e := by rw [fnD, fnDs_all]
theorem dpt_tup {l : List D} : dpt (.tup l) = 1 + dpts l := by rw [dpt]
theorem dpt_leaf {p : Addr} {m : Mp} {d : D} (h : Lf p m d) : dpt d = 0 := by
  rcases h with rfl | ⟨b, rfl⟩ | ⟨i, rfl, _⟩ | ⟨z, rfl, _⟩ | ⟨q, rfl, _⟩ <;> (unfold dpt; rfl)
theorem fine_law {p : Addr} {m : Mp} : ∀ {n : Nat} {d : D}, An p m n d → ∀ k, Fine k d ↔ dpt d ≤ k ∧ fnD d
  | n, d, h, k => by
    rcases h.cases with h | ⟨l, j, rfl, rfl, h1, h2⟩
    · have e := dpt_leaf h
      rw [e]
      rcases h with rfl | ⟨b, rfl⟩ | ⟨i, rfl, _⟩ | ⟨z, rfl, hz1, hz2⟩ | ⟨q, rfl, _⟩
      · exact ⟨fun _ => ⟨Nat.zero_le _, by rw [fnD]; trivial⟩, fun _ => Fine.non⟩
      · exact ⟨(fun h => by cases k <;> exact h.elim), (fun h => by have := h.2; unfold fnD at this; exact this.elim)⟩
      · exact ⟨fun h => ⟨Nat.zero_le _, by rw [fnD]; exact h.num⟩, fun h => Fine.int (by have := h.2; rw [fnD] at this; exact this)⟩
      · refine ⟨fun h => ⟨Nat.zero_le _, ?_⟩, fun h => Fine.str ?_⟩
        · rw [fnD]
          have := h.txt
          exact ⟨by have := this.1; omega, fun c hc => ⟨(this.2 c hc).1, (this.2 c hc).2.1⟩⟩
        · have := h.2
          rw [fnD] at this
          exact ⟨by have := this.1; omega, fun c hc => ⟨(this.2 c hc).1, (this.2 c hc).2, hz2 c hc⟩⟩
      · exact ⟨(fun h => by cases k <;> exact h.elim), (fun h => by have := h.2; unfold fnD at this; exact this.elim)⟩
    · rw [dpt_tup, fn_tup]
      cases k with
      | zero => exact ⟨fun h => h.elim, fun h => by omega⟩
      | succ k =>
        have ih := fun e he => fine_law (h2 e he) k
        constructor
        · rintro ⟨a, b⟩
          have : dpts l ≤ k := dpts_le.mpr fun e he => ((ih e he).mp (b e he)).1
          exact ⟨by omega, a, fun e he => ((ih e he).mp (b e he)).2⟩
        · rintro ⟨a, b, c⟩
          have : dpts l ≤ k := by omega
          exact ⟨b, fun e he => (ih e he).mpr ⟨dpts_le.mp this e he, c e he⟩⟩
theorem isB_leaf {p : Addr} {m : Mp} {d : D} (h : Lf p m d) : isB d "tuple" = false := by
  rcases h with rfl | ⟨b, rfl⟩ | ⟨i, rfl, _⟩ | ⟨z, rfl, _⟩ | ⟨q, rfl, _⟩ <;> rfl
theorem frt {m m1 m2 : Mp} (a : Fr [] m m1) (b : Fr [] m1 m2) : Fr [] m m2 := by walk_at "fr"
theorem take_snoc {α : Type} {l : List α} {i : Nat} {d : α} (h : l[i]? = some d) : l.take (i + 1) = l.take i ++ [d] := by rw [List.take_add_one, h]; rfl
def sp_ldeep : FSpec where
  al := AnA
  lev := fun a => a.n
  pre := fun a ds m => ds = [a.d] ∧ An a.p m a.n a.d
  post := fun a m d m' => d = .int (dpt a.d : Nat) ∧ Fr [] m m'
  exc := fun _ _ _ _ => False
theorem c_ldeep {T : Tb} {L : Nat} {m : Mp} {k : K3} {x : X3} {p : Addr} {n : Nat} {d : D} (hT : T i_law_deep sp_ldeep) (hL : n < L) (h : An p m n d) (hk : ∀ m', Fr [] m m' → k (.int (dpt d : Nat)) m') : callS T L i_law_deep [d] m k x := by
  refine x_call hT ⟨p, n, d⟩ hL ⟨rfl, h⟩ ?_ (fun _ _ h => h.elim)
  rintro _ m' ⟨rfl, f⟩
  exact hk m' f
theorem b_ldeep (T : Tb) (hT : T i_law_deep sp_ldeep) : BodyOk (t_law_deep T) N_law_deep sp_ldeep 1 := by
  rintro L ⟨p, n, d⟩ ds m k x hl hk hx hp hq he
  dsimp only [sp_ldeep] at hl hp hq he
  obtain ⟨rfl, hA⟩ := hp
  unfold t_law_deep
  walk_at "x"
  rcases id hA.cases with h | ⟨l, n', rfl, rfl, hl1, hl2⟩
  · refine xf_isA (b := false) hA (.inr (.inr (.inr rfl))) (isB_leaf h) ?_
    walk_at "x"
    exact hq _ _ ⟨by rw [dpt_leaf h]; rfl, Fr.refl _ _⟩
  refine xf_isA (b := true) hA (.inr (.inr (.inr rfl))) rfl ?_
  walk_at "x"
  rename_i z hz q hq0
  have z0 : (mset (mset m z (.lst [.int 0])) q (.lst [])) z = some (.lst [.int 0]) := (mset_ne (ne_none mset_same hq0)).trans mset_same
  have f0 : Fr [] m (mset (mset m z (.lst [.int 0])) q (.lst [])) := Fr.new (Fr.new (Fr.refl _ _) hz) hq0
  have hqm : m q = none := (Fr.gone (show Fr [] m (mset m z (.lst [.int 0])) from Fr.new (Fr.refl _ _) hz) hq0).resolve_left ni_nil
  have hzq : z ≠ q := ne_none mset_same hq0
  refine ⟨fun i m5 => m5 q = some (.lst ((l.take i).map fun e => D.int (dpt e : Nat))) ∧ m5 z = some (.lst [.int 0]) ∧ Fr [] m m5, ⟨mset_same, z0, f0⟩, (fun _ _ _ _ => True.intro), ?_, ?_⟩
  · rintro i e m5 hd ⟨g1, g2, g3⟩
    have hm := List.mem_of_getElem? hd
    have hi := (List.getElem?_eq_some_iff.mp hd).1
    walk_at "x"
    refine c_ldeep hT (by omega) ((hl2 e hm).fr0 g3) (fun m6 f6 => ?_)
    refine ⟨_, Fr.at f6 ni_nil g1, by rw [List.length_map, List.length_take]; exact Nat.lt_of_lt_of_le (show min i l.length < 100000 by omega) (by decide), ?_, (mset_ne hzq).trans (f6.at ni_nil g2), Fr.set (frt g3 f6) (.inr hqm)⟩
    rw [mset_same, take_snoc hd, List.map_append]
    rfl
  · rintro m5 ⟨g1, g2, g3⟩
    rw [List.take_length] at g1
    walk_at "x"
    refine xf_addL g2 g1 (by rw [List.length_map]; simp only [List.length_cons, List.length_nil]; omega) (fun y hy => ?_)
    have e1 : ([D.int 0] ++ l.map fun e => D.int (dpt e : Nat)) = ((0 : Int) :: l.map fun e => ((dpt e : Nat) : Int)).map D.int := by rw [List.map_cons, List.map_map]; rfl
    rw [e1]
    walk_at "x"
    refine ⟨y, _, rfl, .inl mset_same, Nat.succ_pos _, fun i hi hmax => ?_⟩
    have hid : i = (dpts l : Nat) := by
      have h0 : (0 : Int) ≤ i := hmax 0 List.mem_cons_self
      have hle : dpts l ≤ i.toNat := dpts_le.mpr fun e he => by
        have := hmax _ (List.mem_cons_of_mem _ (List.mem_map_of_mem (f := fun e : D => ((dpt e : Nat) : Int)) he))
        omega
      rcases List.mem_cons.mp hi with rfl | hi
      · omega
      · obtain ⟨e, he, rfl⟩ := List.mem_map.mp hi
        have := dpts_le.mp (Nat.le_refl _) e he
        omega
    subst hid
    walk_at "x"
    exact hq _ _ ⟨by rw [dpt_tup, Int.natCast_add]; rfl, Fr.new g3 hy⟩
def sp_lfine : FSpec where
  al := AnA
  lev := fun a => a.n
  pre := fun a ds m => ds = [a.d] ∧ An a.p m a.n a.d
  post := fun a m d m' => d = .bl (@decide (fnD a.d) (Classical.propDecidable _)) ∧ Fr [] m m'
  exc := fun _ _ _ _ => False
theorem c_lfine {T : Tb} {L : Nat} {m : Mp} {k : K3} {x : X3} {p : Addr} {n : Nat} {d : D} (hT : T i_law_fine sp_lfine) (hL : n < L) (h : An p m n d) (hk : ∀ m', Fr [] m m' → k (.bl (@decide (fnD d) (Classical.propDecidable _))) m') : callS T L i_law_fine [d] m k x := by
  refine x_call hT ⟨p, n, d⟩ hL ⟨rfl, h⟩ ?_ (fun _ _ h => h.elim)
  rintro _ m' ⟨rfl, f⟩
  exact hk m' f
theorem b_lfine (T : Tb) (hT : T i_law_fine sp_lfine) : BodyOk (t_law_fine T) N_law_fine sp_lfine 1 := by
  rintro L ⟨p, n, d⟩ ds m k x hl hk hx hp hq he
  dsimp only [sp_lfine] at hl hp hq he
  obtain ⟨rfl, hA⟩ := hp
  have yes : fnD d → ∀ m', Fr [] m m' → k (.bl true) m' := fun h m' f => hq _ _ ⟨by rw [dcT h], f⟩
  have no : ¬ fnD d → ∀ m', Fr [] m m' → k (.bl false) m' := fun h m' f => hq _ _ ⟨by rw [dcF h], f⟩
  rcases id hA.cases with (rfl | ⟨b, rfl⟩ | ⟨i, rfl, hi1, hi2⟩ | ⟨z, rfl, hz1, _⟩ | ⟨q, rfl, _⟩) | ⟨l, n', rfl, rfl, hl1, hl2⟩
  · unfold t_law_fine
    walk_at "x"
    exact yes (by rw [fnD]; trivial) _ (Fr.refl _ _)
  · unfold t_law_fine
    walk_at "x"
    refine xf_isA (b := false) hA (.inr (.inr (.inr rfl))) rfl ?_
    walk_at "x"
    refine xf_isA (b := false) hA (.inr (.inr (.inl rfl))) rfl ?_
    walk_at "x"
    refine xf_isA (b := true) hA (.inl rfl) rfl ?_
    walk_at "x"
    refine xf_isA (b := true) hA (.inr (.inl rfl)) rfl ?_
    walk_at "x"
    exact no (fun h => by unfold fnD at h; exact h) _ (Fr.refl _ _)
  · unfold t_law_fine
    walk_at "x"
    refine xf_isA (b := false) hA (.inr (.inr (.inr rfl))) rfl ?_
    walk_at "x"
    refine xf_isA (b := false) hA (.inr (.inr (.inl rfl))) rfl ?_
    walk_at "x"
    refine xf_isA (b := true) hA (.inl rfl) rfl ?_
    walk_at "x"
    refine xf_isA (b := false) hA (.inr (.inl rfl)) rfl ?_
    walk_at "x"
    by_cases g : NumOk i
    · rw [decide_eq_true (show (if i < 0 then -i else i) ≤ 1000000000000000000000000000000 by have h1 := g.1; have h2 := g.2; split <;> omega)]
      exact yes (by unfold fnD; exact g) _ (Fr.refl _ _)
    · rw [decide_eq_false (show ¬ (if i < 0 then -i else i) ≤ 1000000000000000000000000000000 from fun h => g (by unfold NumOk; split at h <;> omega))]
      exact no (fun h => by unfold fnD at h; exact g h) _ (Fr.refl _ _)
  · unfold t_law_fine
    walk_at "x"
    refine xf_isA (b := false) hA (.inr (.inr (.inr rfl))) rfl ?_
    walk_at "x"
    refine xf_isA (b := true) hA (.inr (.inr (.inl rfl))) rfl ?_
    walk_at "x"
    refine xf_lenS' (by omega) ?_
    walk_at "x"
    by_cases h61 : z.cps.toList.length < 61
    rotate_left
    · rw [decide_eq_false (show ¬ (z.cps.toList.length : Int) < 61 by omega)]
      walk_at "x"
      exact no (fun h => by unfold fnD at h; exact h61 h.1) _ (Fr.refl _ _)
    rw [decide_eq_true (show (z.cps.toList.length : Int) < 61 by omega)]
    walk_at "x"
    rename_i q hq0
    refine ⟨fun i m5 => ∃ xs : List D, m5 q = some (.lst xs) ∧ xs.length ≤ i ∧ (xs = [] ↔ ∀ c ∈ z.cps.toList.take i, 32 ≤ c ∧ c ≤ 126) ∧ Fr [] m m5, ⟨[], mset_same, Nat.le_refl _, ⟨(fun _ c h => by cases h), fun _ => rfl⟩, Fr.new (Fr.refl _ _) hq0⟩, (fun _ _ _ _ => True.intro), ?_, ?_⟩
    · rintro i d m5 hd ⟨xs, g1, g2, g3, g4⟩
      obtain ⟨c, hc, rfl⟩ := signs_get hd
      have hi := (List.getElem?_eq_some_iff.mp hc).1
      have add : ¬ (32 ≤ c ∧ c ≤ 126) → ∃ acc, m5 q = some (.lst acc) ∧ acc.length < sizeLine ∧ ∃ xs : List D, (mset m5 q (.lst (acc ++ [.str ⟨#[c]⟩]))) q = some (.lst xs) ∧ xs.length ≤ i + 1 ∧ (xs = [] ↔ ∀ c ∈ z.cps.toList.take (i + 1), 32 ≤ c ∧ c ≤ 126) ∧ Fr [] m (mset m5 q (.lst (acc ++ [.str ⟨#[c]⟩]))) := fun hv =>
        ⟨xs, g1, Nat.lt_of_lt_of_le (show xs.length < 100000 by omega) (by decide), xs ++ [.str ⟨#[c]⟩], mset_same, by simp; omega, ⟨fun h => by simp at h, fun h => absurd (h c (by rw [take_snoc hc]; exact List.mem_append_right _ List.mem_cons_self)) hv⟩, Fr.set g4 (.inr hq0)⟩
      walk_at "x"
      by_cases b1 : c < 32
      · rw [decide_eq_true (show (c : Int) < 32 by omega)]
        walk_at "x"
        exact add (by omega)
      rw [decide_eq_false (show ¬ (c : Int) < 32 by omega)]
      walk_at "x"
      by_cases b2 : 126 < c
      · rw [decide_eq_true (show (126 : Int) < (c : Int) by omega)]
        walk_at "x"
        exact add (by omega)
      rw [decide_eq_false (show ¬ (126 : Int) < (c : Int) by omega)]
      walk_at "x"
      exact ⟨xs, g1, by omega, g3.trans ⟨fun h u hu => by
        rw [take_snoc hc] at hu
        rcases List.mem_append.mp hu with hu | hu
        · exact h u hu
        · rw [List.mem_singleton.mp hu]; omega, fun h u hu => h u (by rw [take_snoc hc]; exact List.mem_append_left _ hu)⟩, g4⟩
    · rintro m5 ⟨xs, g1, g2, g3, g4⟩
      rw [signs_length, List.take_length] at g3
      walk_at "x"
      rename_i y hy
      refine xf_eqKl (l := xs) (.inl ((mset_ne (ne_none g1 hy)).trans g1)) (.inl mset_same) ?_
      by_cases hx0 : xs = []
      · rw [show xs.isEmpty = true by rw [hx0]; rfl]
        exact yes (by unfold fnD; exact ⟨h61, g3.mp hx0⟩) _ (Fr.new g4 hy)
      · rw [show xs.isEmpty = false by cases xs with
          | nil => exact absurd rfl hx0
          | cons _ _ => rfl]
        exact no (fun h => by unfold fnD at h; exact hx0 (g3.mpr h.2)) _ (Fr.new g4 hy)
  · unfold t_law_fine
    walk_at "x"
    refine xf_isA (b := false) hA (.inr (.inr (.inr rfl))) rfl ?_
    walk_at "x"
    refine xf_isA (b := false) hA (.inr (.inr (.inl rfl))) rfl ?_
    walk_at "x"
    refine xf_isA (b := false) hA (.inl rfl) rfl ?_
    walk_at "x"
    exact no (fun h => by unfold fnD at h; exact h) _ (Fr.refl _ _)
  · unfold t_law_fine
    walk_at "x"
    refine xf_isA (b := true) hA (.inr (.inr (.inr rfl))) rfl ?_
    walk_at "x"
    by_cases h40 : l.length ≤ 40
    rotate_left
    · rw [decide_eq_false (show ¬ (l.length : Int) ≤ 40 by omega)]
      walk_at "x"
      exact no (fun h => h40 (fn_tup.mp h).1) _ (Fr.refl _ _)
    rw [decide_eq_true (show (l.length : Int) ≤ 40 by omega)]
    walk_at "x"
    rename_i q hq0
    refine ⟨fun i m5 => ∃ xs : List D, m5 q = some (.lst xs) ∧ xs.length ≤ i ∧ (xs = [] ↔ ∀ e ∈ l.take i, fnD e) ∧ Fr [] m m5, ⟨[], mset_same, Nat.le_refl _, ⟨(fun _ c h => by cases h), fun _ => rfl⟩, Fr.new (Fr.refl _ _) hq0⟩, (fun _ _ _ _ => True.intro), ?_, ?_⟩
    · rintro i e m5 hd ⟨xs, g1, g2, g3, g4⟩
      have hm := List.mem_of_getElem? hd
      have hi := (List.getElem?_eq_some_iff.mp hd).1
      walk_at "x"
      refine c_lfine hT (by omega) ((hl2 e hm).fr0 g4) (fun m6 f6 => ?_)
      have g6 := f6.at ni_nil g1
      have f46 := frt g4 f6
      by_cases hf : fnD e
      · rw [dcT hf]
        walk_at "x"
        exact ⟨xs, g6, by omega, g3.trans ⟨fun h u hu => by
          rw [take_snoc hd] at hu
          rcases List.mem_append.mp hu with hu | hu
          · exact h u hu
          · rw [List.mem_singleton.mp hu]; exact hf, fun h u hu => h u (by rw [take_snoc hd]; exact List.mem_append_left _ hu)⟩, f46⟩
      · rw [dcF hf]
        walk_at "x"
        exact ⟨xs, g6, Nat.lt_of_lt_of_le (show xs.length < 100000 by omega) (by decide), xs ++ [e], mset_same, by simp; omega, ⟨fun h => by simp at h, fun h => absurd (h e (by rw [take_snoc hd]; exact List.mem_append_right _ List.mem_cons_self)) hf⟩, Fr.set f46 (.inr hq0)⟩
    · rintro m5 ⟨xs, g1, g2, g3, g4⟩
      rw [List.take_length] at g3
      walk_at "x"
      rename_i y hy
      refine xf_eqKl (l := xs) (.inl ((mset_ne (ne_none g1 hy)).trans g1)) (.inl mset_same) ?_
      by_cases hx0 : xs = []
      · rw [show xs.isEmpty = true by rw [hx0]; rfl]
        exact yes (fn_tup.mpr ⟨h40, g3.mp hx0⟩) _ (Fr.new g4 hy)
      · rw [show xs.isEmpty = false by cases xs with
          | nil => exact absurd rfl hx0
          | cons _ _ => rfl]
        exact no (fun h => hx0 (g3.mpr (fn_tup.mp h).2)) _ (Fr.new g4 hy)

/-! k01: right; what is none; wrapped; put in -/
theorem xf_eqBl {b : Bool} {m : Mp} {k : K3} (h : k (.bl true) m) : fEq (.bl b) (.bl b) m k := by
  refine ⟨.bool b, .bool b, .bl b, .bl b, peq_l (by show 0 ≤ 64; decide), ?_⟩
  have e : PyData.eqv (.bool b) (.bool b) = true := by cases b <;> rfl
  rw [e]; exact h
def sp_right : FSpec where
  al := AnA
  lev := fun a => a.n + 8
  pre := fun a ds m => ds = [a.d] ∧ An a.p m a.n a.d
  post := fun a m d m' => d = .bl true ∧ Fr [] m m'
  exc := fun _ _ _ _ => False
theorem b_right (T : Tb) (hI : T i_is_thing sp_isthing) (hD : T i_law_deep sp_ldeep) (hF : T i_law_fine sp_lfine) : BodyOk (t_law_right T) N_law_right sp_right 1 := by
  rintro L ⟨p, n, d⟩ ds m k x hl hk hx hp hq he
  dsimp only [sp_right] at hl hp hq he
  obtain ⟨rfl, hA⟩ := hp
  unfold t_law_right
  walk_at "x"
  refine c_isthing hI (by omega) hA ?_
  have hlaw := fine_law hA 5
  generalize hb : @decide (Fine 5 d) (Classical.propDecidable _) = b
  walk_at "x"
  refine xf_isiX (xf_isiT (TyD.bl b) (by decide) ?_)
  walk_at "x"
  refine c_ldeep hD (by omega) hA (fun m1 f1 => ?_)
  walk_at "x"
  by_cases g : dpt d ≤ 5
  · rw [decide_eq_true (show ((dpt d : Nat) : Int) ≤ 5 by omega)]
    walk_at "x"
    refine c_lfine hF (by omega) (hA.fr0 f1) (fun m2 f2 => ?_)
    have e : b = @decide (fnD d) (Classical.propDecidable _) := by
      rw [← hb]
      by_cases hf : fnD d
      · rw [dcT hf, dcT (hlaw.mpr ⟨g, hf⟩)]
      · rw [dcF hf, dcF (fun w => hf (hlaw.mp w).2)]
    rw [← e]
    exact xf_eqBl (hq _ _ ⟨rfl, frt f1 f2⟩)
  · rw [decide_eq_false (show ¬ ((dpt d : Nat) : Int) ≤ 5 by omega)]
    walk_at "x"
    have e : b = false := by rw [← hb, dcF (fun w => g (hlaw.mp w).1)]
    rw [e]
    exact hq _ _ ⟨rfl, f1⟩
theorem c_right {T : Tb} {L : Nat} {m : Mp} {k : K3} {x : X3} {p : Addr} {n : Nat} {d : D} (hT : T i_law_right sp_right) (hL : n + 8 < L) (h : An p m n d) (hk : ∀ m', Fr [] m m' → k (.bl true) m') : callS T L i_law_right [d] m k x := by
  refine x_call hT ⟨p, n, d⟩ hL ⟨rfl, h⟩ ?_ (fun _ _ h => h.elim)
  rintro _ m' ⟨rfl, f⟩
  exact hk m' f
/-! what is none -/
theorem frp {p : Addr} {m m2 m3 : Mp} (f : Fr [p] m m2) (g : Fr [p] m2 m3) : Fr [p] m m3 := Fr.sub g (Ins.cons (.inl List.mem_cons_self) Ins.nil) f
theorem frp0 {p : Addr} {m m2 m3 : Mp} (f : Fr [p] m m2) (g : Fr [] m2 m3) : Fr [p] m m3 := Fr.sub g Ins.nil f
theorem cut_sub {z : Str} {lo hi : Option Int} : (cutS z lo hi).cps.toList.length ≤ z.cps.toList.length ∧ ∀ c ∈ (cutS z lo hi).cps.toList, c ∈ z.cps.toList := by
  rw [cutS_list]
  refine ⟨?_, fun c hc => List.mem_of_mem_drop (List.mem_of_mem_take hc)⟩
  rw [List.length_take, List.length_drop]
  omega
/-- what may be handed as bad: itself data, a list, an empty dict, an error -/
inductive BdIs (p : Addr) (m : Mp) : D → Prop
  | bl (b : Bool) : BdIs p m (.bl b)
  | int {i : Int} : -(2 ^ 300) < i → i < 2 ^ 300 → BdIs p m (.int i)
  | str {z : Str} : z.cps.toList.length ≤ 1000 → (∀ c ∈ z.cps.toList, c ≠ 37) → BdIs p m (.str z)
  | tup {n : Nat} : n ≤ 60 → BdIs p m (.tup (List.replicate n .non))
  | lst {q : Addr} {l : List D} : q ≠ p → m q = some (.lst l) → (l = [] ∨ l = [.int 1] ∨ l = [.str (Str.ofString "a"), .tup []]) → BdIs p m (.ref q)
  | dic {q : Addr} : q ≠ p → m q = some (.dK []) → BdIs p m (.ref q)
  | exc {q : Addr} : q ≠ p → m q = some (.exc "NoThing" none) → BdIs p m (.ref q)
theorem BdIs.mono {p : Addr} {m m' : Mp} {d : D} (h : BdIs p m d) (f : ∀ q o, q ≠ p → m q = some o → m' q = some o) : BdIs p m' d := by
  cases h with
  | bl b => exact .bl b
  | int a b => exact .int a b
  | str a b => exact .str a b
  | tup a => exact .tup a
  | lst a b c => exact .lst a (f _ _ a b) c
  | dic a b => exact .dic a (f _ _ a b)
  | exc a b => exact .exc a (f _ _ a b)
theorem BdIs.fr {p : Addr} {m m' : Mp} {d : D} (h : BdIs p m d) (f : Fr [p] m m') : BdIs p m' d := h.mono fun q o hq e => f.at (fun z => hq (List.mem_singleton.mp z)) e
theorem BdIs.fr0 {p : Addr} {m m' : Mp} {d : D} (h : BdIs p m d) (f : Fr [] m m') : BdIs p m' d := h.mono fun q o _ e => f.at ni_nil e
theorem BdIs.an {p : Addr} {m : Mp} {d : D} (h : BdIs p m d) : An p m 1 d := by
  cases h with
  | bl b => exact .leaf (.inr (.inl ⟨b, rfl⟩))
  | int a b => exact .leaf (.inr (.inr (.inl ⟨_, rfl, a, b⟩)))
  | str a b => exact .leaf (.inr (.inr (.inr (.inl ⟨_, rfl, a, b⟩))))
  | tup a => exact .tup (by rw [List.length_replicate]; omega) fun e he => by rw [List.eq_of_mem_replicate he]; exact .leaf (.inl rfl)
  | lst a b c => exact .leaf (.inr (.inr (.inr (.inr ⟨_, rfl, a, .inl ⟨_, b⟩⟩))))
  | dic a b => exact .leaf (.inr (.inr (.inr (.inr ⟨_, rfl, a, .inr (.inl b)⟩))))
  | exc a b => exact .leaf (.inr (.inr (.inr (.inr ⟨_, rfl, a, .inr (.inr b)⟩))))
def sp_bad : FSpec where
  al := Addr × List D
  lev := fun _ => 2
  pre := fun a ds m => ds = [.ref a.1] ∧ m a.1 = some (.lst a.2) ∧ RowOk a.2
  post := fun a m d m' => ∃ row', BdIs a.1 m' d ∧ m' a.1 = some (.lst row') ∧ RowOk row' ∧ Fr [a.1] m m'
  exc := fun _ _ _ _ => False
theorem c_bad {T : Tb} {L : Nat} {m : Mp} {k : K3} {x : X3} {p : Addr} {row : List D} (hT : T i_law_bad sp_bad) (hL : 2 < L) (h1 : m p = some (.lst row)) (h2 : RowOk row)
    (hk : ∀ d row' m', BdIs p m' d → m' p = some (.lst row') → RowOk row' → Fr [p] m m' → k d m') : callS T L i_law_bad [.ref p] m k x := by
  refine x_call hT ⟨p, row⟩ hL ⟨rfl, h1, h2⟩ ?_ (fun _ _ h => h.elim)
  rintro d m' ⟨row', a, b, c, e⟩
  exact hk d row' m' a b c e

/-! k01: what is none, drawn -/
theorem b_bad (T : Tb) (hT : T i_law_take sp_take) (hX : T i_law_text sp_text) : BodyOk (t_law_bad T) N_law_bad sp_bad 1 := by
  rintro L ⟨p, row⟩ ds m k x hl hk hx hp hq he
  dsimp only [sp_bad] at hl hp hq he
  obtain ⟨rfl, h1, h2⟩ := hp
  unfold t_law_bad
  walk_at "x"
  rename_i z1 hz1
  have n1 : z1 ≠ p := (ne_none h1 hz1).symm
  refine c_take hT (by omega) ((mset_ne n1.symm).trans h1) h2 (by decide) (by decide) (fun r row2 m2 i3 i4 i5 i6 i7 => ?_)
  have l2 : m2 z1 = some (.lst [.str (Str.ofString "\n"), .str (Str.ofString "\t")]) := i7.at (fun w => n1 (List.mem_singleton.mp w)) mset_same
  have F2 : Fr [p] m m2 := Fr.sub i7 (Ins.cons (.inl List.mem_cons_self) Ins.nil) (Fr.new (Fr.refl _ _) hz1)
  refine fx_M (.inl l2) i3 i4 fun d hd _ => ?_
  obtain ⟨sg, rfl, hsg⟩ : ∃ sg : Str, d = .str sg ∧ (sg.cps.toList.length = 1 ∧ ∀ c ∈ sg.cps.toList, c ≠ 37) := by
    simp only [List.mem_cons, List.not_mem_nil, or_false] at hd
    rcases hd with rfl | rfl
    · exact ⟨_, rfl, by decide +kernel⟩
    · exact ⟨_, rfl, by decide +kernel⟩
  clear hd l2 i7 i3 i4
  walk_at "x"
  refine c_text hX (by omega) i5 i6 (fun tx row3 m3 t1 t2 t3 f3 => ?_)
  have F3 := frp F2 f3
  clear f3 i5 i6
  walk_at "x"
  refine xf_slS' (by have := t1.1; omega) ?_
  have ct : (cutS tx none (some 59)).cps.toList.length ≤ 59 ∧ ∀ c ∈ (cutS tx none (some 59)).cps.toList, c ≠ 37 := by
    rw [cutS_list]
    refine ⟨?_, fun c hc => (t1.2 c (List.mem_of_mem_drop (List.mem_of_mem_take hc))).2.2⟩
    rw [List.length_take, show (59 : Int) = ((59 : Nat) : Int) from rfl, HT.sIx_nat]
    omega
  obtain ⟨ct1, ct2⟩ := ct
  generalize cutS tx none (some 59) = t at *
  clear t1
  walk_at "x"
  refine xf_lenS' (by omega) ?_
  walk_at "x"
  refine c_take hT (by omega) t2 t3 (by omega) (by omega) (fun at_ row4 m4 a1 a2 a3 a4 f4 => ?_)
  have F4 := frp F3 f4
  clear f4 t2 t3 F3
  walk_at "x"
  refine c_take hT (by omega) a3 a4 (by decide) (by decide) (fun ra row5 m5 b1 b2 b3 b4 f5 => ?_)
  have F5 := frp F4 f5
  clear f5 a3 a4 F4
  walk_at "x"
  refine c_take hT (by omega) b3 b4 (by decide) (by decide) (fun rb row6 m6 c1 c2 c3 c4 f6 => ?_)
  have F6 := frp F5 f6
  clear f6 b3 b4 F5
  have hab : 0 ≤ ra * rb ∧ ra * rb < 2 ^ 100 := ⟨Int.mul_nonneg b1 c1, by
    have h1 : ra * rb ≤ 1000000000000000 * 1000000000000000 := Int.mul_le_mul (by omega) (by omega) c1 (by decide)
    omega⟩
  walk_at "x"
  rename_i z2 hz2
  generalize ra * rb = ab at *
  have n2 : z2 ≠ p := (ne_none c3 hz2).symm
  refine c_take hT (by omega) ((mset_ne n2.symm).trans c3) c4 (by decide) (by decide) (fun rc row7 m7 d1 d2 d3 d4 f7 => ?_)
  have l7 : m7 z2 = some (.lst [.int 0, .int ab, .int (10 ^ Int.toNat 60)]) := f7.at (fun w => n2 (List.mem_singleton.mp w)) mset_same
  have F7 : Fr [p] m m7 := Fr.sub f7 (Ins.cons (.inl List.mem_cons_self) Ins.nil) (Fr.new F6 hz2)
  refine fx_M (.inl l7) d1 d2 fun d hd _ => ?_
  obtain ⟨fr, rfl, hf1, hf2⟩ : ∃ e : Int, d = .int e ∧ 0 ≤ e ∧ e < 2 ^ 200 := by
    simp only [List.mem_cons, List.not_mem_nil, or_false] at hd
    rcases hd with rfl | rfl | rfl
    · exact ⟨_, rfl, by decide, by decide⟩
    · exact ⟨_, rfl, hab.1, by omega⟩
    · exact ⟨_, rfl, by decide, by decide⟩
  clear hd l7 f7 c3 c4 F6 hz2 hab
  walk_at "x"
  have hfar1 : -(2 ^ 300) < (1000000000000000000000000000000 + 1 + fr : Int) := by omega
  have hfar2 : (1000000000000000000000000000000 + 1 + fr : Int) < 2 ^ 300 := by omega
  generalize (1000000000000000000000000000000 + 1 + fr : Int) = far at *
  walk_at "x"
  refine xf_slS' (by omega) ?_
  have u1 := cut_sub (z := t) (lo := none) (hi := some at_)
  generalize cutS t none (some at_) = ta at *
  walk_at "x"
  refine xf_addS' (by omega) ?_
  walk_at "x"
  refine xf_slS' (by omega) ?_
  have u2 := cut_sub (z := t) (lo := some at_) (hi := none)
  generalize cutS t (some at_) none = tb at *
  refine xf_addS' (by rw [str_app, List.length_append]; omega) ?_
  have hw : (ta ++ sg ++ tb).cps.toList.length ≤ 1000 ∧ ∀ c ∈ (ta ++ sg ++ tb).cps.toList, c ≠ 37 := by
    rw [str_app, str_app]
    refine ⟨by rw [List.length_append, List.length_append]; omega, fun c hc => ?_⟩
    rcases List.mem_append.mp hc with hc | hc
    · rcases List.mem_append.mp hc with hc | hc
      · exact ct2 c (u1.2 c hc)
      · exact hsg.2 c hc
    · exact ct2 c (u2.2 c hc)
  generalize ta ++ sg ++ tb = w at *
  clear u1 u2
  walk_at "x"
  refine x_newE (fun ze hze => ?_)
  walk_at "x"
  rename_i z5 hz5 z6 hz6 z7 hz7 z8 hz8 z9 hz9
  have n5 : z5 ≠ p := (ne_none d3 hz5).symm
  have n6 : z6 ≠ p := by walk_at "ne"
  have n7 : z7 ≠ p := by walk_at "ne"
  have n8 : z8 ≠ p := by walk_at "ne"
  have ne : ze ≠ p := by walk_at "ne"
  have n9 : z9 ≠ p := by walk_at "ne"
  have k5 : z5 ≠ z9 := by walk_at "ne"
  have k6 : z6 ≠ z9 := by walk_at "ne"
  have k7 : z7 ≠ z9 := by walk_at "ne"
  have k8 : z8 ≠ z9 := by walk_at "ne"
  have ke : ze ≠ z9 := by walk_at "ne"
  have F9 : Fr [p] m (mset (mset (mset (mset (mset (mset m7 z5 (.lst [])) z6 (.lst [.int 1])) z7 (.dK [])) z8 (.lst [.str (Str.ofString "a"), .tup []])) ze (.exc "NoThing" none)) z9 (.lst [.bl true, .bl false, .int far, .int (-far), .str w, .ref z5, .ref z6, .ref z7, .ref z8, .ref ze])) := Fr.new (Fr.new (Fr.new (Fr.new (Fr.new (Fr.new F7 hz5) hz6) hz7) hz8) hze) hz9
  have z9m : m z9 = none := (Fr.gone (Fr.new (Fr.new (Fr.new (Fr.new (Fr.new F7 hz5) hz6) hz7) hz8) hze) hz9).resolve_left fun w => n9 (List.mem_singleton.mp w)
  have e9 : (mset (mset (mset (mset (mset (mset m7 z5 (.lst [])) z6 (.lst [.int 1])) z7 (.dK [])) z8 (.lst [.str (Str.ofString "a"), .tup []])) ze (.exc "NoThing" none)) z9 (.lst [.bl true, .bl false, .int far, .int (-far), .str w, .ref z5, .ref z6, .ref z7, .ref z8, .ref ze])) z9 = some (.lst [.bl true, .bl false, .int far, .int (-far), .str w, .ref z5, .ref z6, .ref z7, .ref z8, .ref ze]) := mset_same
  have e5 : (mset (mset (mset (mset (mset (mset m7 z5 (.lst [])) z6 (.lst [.int 1])) z7 (.dK [])) z8 (.lst [.str (Str.ofString "a"), .tup []])) ze (.exc "NoThing" none)) z9 (.lst [.bl true, .bl false, .int far, .int (-far), .str w, .ref z5, .ref z6, .ref z7, .ref z8, .ref ze])) z5 = some (.lst []) := by walk_at "hp"
  have e6 : (mset (mset (mset (mset (mset (mset m7 z5 (.lst [])) z6 (.lst [.int 1])) z7 (.dK [])) z8 (.lst [.str (Str.ofString "a"), .tup []])) ze (.exc "NoThing" none)) z9 (.lst [.bl true, .bl false, .int far, .int (-far), .str w, .ref z5, .ref z6, .ref z7, .ref z8, .ref ze])) z6 = some (.lst [.int 1]) := by walk_at "hp"
  have e7 : (mset (mset (mset (mset (mset (mset m7 z5 (.lst [])) z6 (.lst [.int 1])) z7 (.dK [])) z8 (.lst [.str (Str.ofString "a"), .tup []])) ze (.exc "NoThing" none)) z9 (.lst [.bl true, .bl false, .int far, .int (-far), .str w, .ref z5, .ref z6, .ref z7, .ref z8, .ref ze])) z7 = some (.dK []) := by walk_at "hp"
  have e8 : (mset (mset (mset (mset (mset (mset m7 z5 (.lst [])) z6 (.lst [.int 1])) z7 (.dK [])) z8 (.lst [.str (Str.ofString "a"), .tup []])) ze (.exc "NoThing" none)) z9 (.lst [.bl true, .bl false, .int far, .int (-far), .str w, .ref z5, .ref z6, .ref z7, .ref z8, .ref ze])) z8 = some (.lst [.str (Str.ofString "a"), .tup []]) := by walk_at "hp"
  have ee : (mset (mset (mset (mset (mset (mset m7 z5 (.lst [])) z6 (.lst [.int 1])) z7 (.dK [])) z8 (.lst [.str (Str.ofString "a"), .tup []])) ze (.exc "NoThing" none)) z9 (.lst [.bl true, .bl false, .int far, .int (-far), .str w, .ref z5, .ref z6, .ref z7, .ref z8, .ref ze])) ze = some (.exc "NoThing" none) := by walk_at "hp"
  have p9 : (mset (mset (mset (mset (mset (mset m7 z5 (.lst [])) z6 (.lst [.int 1])) z7 (.dK [])) z8 (.lst [.str (Str.ofString "a"), .tup []])) ze (.exc "NoThing" none)) z9 (.lst [.bl true, .bl false, .int far, .int (-far), .str w, .ref z5, .ref z6, .ref z7, .ref z8, .ref ze])) p = some (.lst row7) := by walk_at "hp"
  generalize (mset (mset (mset (mset (mset (mset m7 z5 (.lst [])) z6 (.lst [.int 1])) z7 (.dK [])) z8 (.lst [.str (Str.ofString "a"), .tup []])) ze (.exc "NoThing" none)) z9 (.lst [.bl true, .bl false, .int far, .int (-far), .str w, .ref z5, .ref z6, .ref z7, .ref z8, .ref ze])) = m9 at *
  clear hz5 hz6 hz7 hz8 hze hz9 d3 F7
  refine xf_lenS' (by omega) ?_
  walk_at "x"
  rename_i z10 hz10
  have n10 : z10 ≠ p := (ne_none p9 hz10).symm
  have n910 : z9 ≠ z10 := ne_none e9 hz10
  refine c_take hT (by omega) ((mset_ne n10.symm).trans p9) d4 (by decide) (by decide) (fun rd row10 m10 g1 g2 g3 g4 f10 => ?_)
  have G0 : Fr [p, z9] m9 (mset m9 z10 (.lst [.int 0, .int 1, .int 400])) := Fr.new (Fr.refl _ _) hz10
  have G10 : Fr [p, z9] m9 m10 := Fr.sub f10 (Ins.cons (.inl List.mem_cons_self) Ins.nil) G0
  have F10 : Fr [p] m m10 := Fr.sub f10 (Ins.cons (.inl List.mem_cons_self) Ins.nil) (Fr.new F9 hz10)
  have l10 : m10 z10 = some (.lst [.int 0, .int 1, .int 400]) := f10.at (fun w => n10 (List.mem_singleton.mp w)) mset_same
  have q10 : m10 z9 = some (.lst [.bl true, .bl false, .int far, .int (-far), .str w, .ref z5, .ref z6, .ref z7, .ref z8, .ref ze]) := f10.at (fun w => n9 (List.mem_singleton.mp w)) ((mset_ne n910).trans e9)
  refine fx_M (.inl l10) g1 g2 fun d hd _ => ?_
  obtain ⟨ex, rfl, hx1, hx2⟩ : ∃ e : Int, d = .int e ∧ 0 ≤ e ∧ e ≤ 400 := by
    simp only [List.mem_cons, List.not_mem_nil, or_false] at hd
    rcases hd with rfl | rfl | rfl <;> exact ⟨_, rfl, by decide, by decide⟩
  clear hd l10 f10 G0 e9 p9 d4 F9
  walk_at "x"
  refine xf_mulS (by omega) (by omega) (by decide +kernel) ?_
  have hy : (repS (Str.ofString "y") (61 - (t.cps.toList.length : Int) + ex).toNat).cps.toList.length ≤ 470 ∧ ∀ c ∈ (repS (Str.ofString "y") (61 - (t.cps.toList.length : Int) + ex).toNat).cps.toList, c ≠ 37 := by
    have hn : (61 - (t.cps.toList.length : Int) + ex).toNat ≤ 461 := by omega
    generalize (61 - (t.cps.toList.length : Int) + ex).toNat = nn at *
    unfold repS
    rw [show (Str.ofString "y").cps.toList = [121] by decide +kernel, List.flatten_replicate_singleton]
    refine ⟨by show (List.replicate nn 121).toArray.toList.length ≤ 470; simp; omega, fun c hc => ?_⟩
    have hc : c ∈ List.replicate nn 121 := hc
    rw [List.eq_of_mem_replicate hc]; decide
  generalize repS (Str.ofString "y") (61 - (t.cps.toList.length : Int) + ex).toNat = ys at *
  refine xf_addS' (by omega) ?_
  have hv : (t ++ ys).cps.toList.length ≤ 1000 ∧ ∀ c ∈ (t ++ ys).cps.toList, c ≠ 37 := by
    rw [str_app]
    refine ⟨by rw [List.length_append]; omega, fun c hc => ?_⟩
    rcases List.mem_append.mp hc with hc | hc
    · exact ct2 c hc
    · exact hy.2 c hc
  generalize t ++ ys = v at *
  walk_at "x"
  have p11 : (mset m10 z9 (.lst ([.bl true, .bl false, .int far, .int (-far), .str w, .ref z5, .ref z6, .ref z7, .ref z8, .ref ze] ++ [.str v]))) p = some (.lst row10) := (mset_ne n9.symm).trans g3
  have q11 : (mset m10 z9 (.lst ([.bl true, .bl false, .int far, .int (-far), .str w, .ref z5, .ref z6, .ref z7, .ref z8, .ref ze] ++ [.str v]))) z9 = some (.lst ([.bl true, .bl false, .int far, .int (-far), .str w, .ref z5, .ref z6, .ref z7, .ref z8, .ref ze] ++ [.str v])) := mset_same
  have G11 : Fr [p, z9] m9 (mset m10 z9 (.lst ([.bl true, .bl false, .int far, .int (-far), .str w, .ref z5, .ref z6, .ref z7, .ref z8, .ref ze] ++ [.str v]))) := Fr.set G10 (.inl (List.mem_cons_of_mem _ List.mem_cons_self))
  have F11 : Fr [p] m (mset m10 z9 (.lst ([.bl true, .bl false, .int far, .int (-far), .str w, .ref z5, .ref z6, .ref z7, .ref z8, .ref ze] ++ [.str v]))) := Fr.set F10 (.inr z9m)
  generalize mset m10 z9 (.lst ([.bl true, .bl false, .int far, .int (-far), .str w, .ref z5, .ref z6, .ref z7, .ref z8, .ref ze] ++ [.str v])) = m11 at *
  clear G10 F10 q10 g3
  refine c_take hT (by omega) p11 g4 (by decide) (by decide) (fun rn row12 m12 o1 o2 o3 o4 f12 => ?_)
  have q12 := f12.at (fun w => n9 (List.mem_singleton.mp w)) q11
  have G12 : Fr [p, z9] m9 m12 := Fr.sub f12 (Ins.cons (.inl List.mem_cons_self) Ins.nil) G11
  have F12 := frp F11 f12
  clear f12 G11 F11 q11 p11 g4
  walk_at "x"
  refine xf_mulT (by simp) (by omega) (by omega) (by decide) ?_
  rw [show (List.replicate (41 + rn).toNat [D.non]).flatten = List.replicate (41 + rn).toNat D.non from List.flatten_replicate_singleton]
  have hn : (41 + rn).toNat ≤ 60 := by omega
  generalize (41 + rn).toNat = nn at *
  walk_at "x"
  have p13 : (mset m12 z9 (.lst ([.bl true, .bl false, .int far, .int (-far), .str w, .ref z5, .ref z6, .ref z7, .ref z8, .ref ze] ++ [.str v] ++ [.tup (List.replicate nn .non)]))) p = some (.lst row12) := (mset_ne n9.symm).trans o3
  have q13 : (mset m12 z9 (.lst ([.bl true, .bl false, .int far, .int (-far), .str w, .ref z5, .ref z6, .ref z7, .ref z8, .ref ze] ++ [.str v] ++ [.tup (List.replicate nn .non)]))) z9 = some (.lst ([.bl true, .bl false, .int far, .int (-far), .str w, .ref z5, .ref z6, .ref z7, .ref z8, .ref ze] ++ [.str v] ++ [.tup (List.replicate nn .non)])) := mset_same
  have G13 : Fr [p, z9] m9 (mset m12 z9 (.lst ([.bl true, .bl false, .int far, .int (-far), .str w, .ref z5, .ref z6, .ref z7, .ref z8, .ref ze] ++ [.str v] ++ [.tup (List.replicate nn .non)]))) := Fr.set G12 (.inl (List.mem_cons_of_mem _ List.mem_cons_self))
  have F13 : Fr [p] m (mset m12 z9 (.lst ([.bl true, .bl false, .int far, .int (-far), .str w, .ref z5, .ref z6, .ref z7, .ref z8, .ref ze] ++ [.str v] ++ [.tup (List.replicate nn .non)]))) := Fr.set F12 (.inr z9m)
  generalize mset m12 z9 (.lst ([.bl true, .bl false, .int far, .int (-far), .str w, .ref z5, .ref z6, .ref z7, .ref z8, .ref ze] ++ [.str v] ++ [.tup (List.replicate nn .non)])) = m13 at *
  clear G12 F12 q12 o3
  refine c_take hT (by omega) p13 o4 (show (0 : Int) < 12 by decide) (show (12 : Int) < 2 ^ 100 by decide) (fun rl row14 m14 y1 y2 y3 y4 f14 => ?_)
  have q14 := f14.at (fun w => n9 (List.mem_singleton.mp w)) q13
  have G14 : Fr [p, z9] m9 m14 := Fr.sub f14 (Ins.cons (.inl List.mem_cons_self) Ins.nil) G13
  have F14 := frp F13 f14
  refine fx_M (.inl q14) y1 y2 fun d hd _ => ?_
  refine hq _ _ ⟨row14, ?_, y3, y4, F14⟩
  have at_ : ∀ {q : Addr} {o : O}, q ≠ p → q ≠ z9 → m9 q = some o → m14 q = some o := fun h1 h2 e => G14.at (fun w => by
    rcases List.mem_cons.mp w with w | w
    · exact h1 w
    · exact h2 (List.mem_singleton.mp w)) e
  simp only [List.mem_append, List.mem_cons, List.not_mem_nil, or_false] at hd
  rcases hd with ((rfl | rfl | rfl | rfl | rfl | rfl | rfl | rfl | rfl | rfl) | rfl) | rfl
  · exact .bl _
  · exact .bl _
  · exact .int hfar1 hfar2
  · exact .int (by omega) (by omega)
  · exact .str hw.1 hw.2
  · exact .lst n5 (at_ n5 k5 e5) (.inl rfl)
  · exact .lst n6 (at_ n6 k6 e6) (.inr (.inl rfl))
  · exact .dic n7 (at_ n7 k7 e7)
  · exact .lst n8 (at_ n8 k8 e8) (.inr (.inr rfl))
  · exact .exc ne (at_ ne ke ee)
  · exact .str hv.1 hv.2
  · exact .tup hn

/-! k01: wrapped; put in -/
def sp_wrapped : FSpec where
  al := (Addr × List D) × D × Nat × Nat
  lev := fun _ => 4
  pre := fun a ds m => ds = [.ref a.1.1, a.2.1, .int (a.2.2.2 : Nat)] ∧ m a.1.1 = some (.lst a.1.2) ∧ RowOk a.1.2 ∧ An a.1.1 m a.2.2.1 a.2.1 ∧ a.2.2.2 ≤ 10
  post := fun a m d m' => ∃ row', An a.1.1 m' (a.2.2.1 + a.2.2.2) d ∧ m' a.1.1 = some (.lst row') ∧ RowOk row' ∧ Fr [a.1.1] m m'
  exc := fun _ _ _ _ => False
theorem b_wrapped (T : Tb) (hT : T i_law_take sp_take) (hS : T i_law_thing sp_thing) : BodyOk (t_law_wrapped T) N_law_wrapped sp_wrapped 3 := by
  rintro L ⟨⟨p, row⟩, d0, n, many⟩ ds m k x hl hk hx hp hq he
  dsimp only [sp_wrapped] at hl hp hq he
  obtain ⟨rfl, h1, h2, h3, h4⟩ := hp
  unfold t_law_wrapped
  walk_at "x"
  refine for3 (fun i s m5 => ∃ d5 row5 c3 c4 c5 c6, s = [some (.ref p), some d5, some (.int (many : Nat)), c3, c4, c5, c6] ∧ An p m5 (n + i) d5 ∧ m5 p = some (.lst row5) ∧ RowOk row5 ∧ Fr [p] m m5) ⟨d0, row, _, _, _, _, rfl, h3, h1, h2, Fr.refl _ _⟩ (fun _ _ _ _ _ => True.intro) ?_ ?_
  · rintro i e s m5 hd ⟨d5, row5, c3, c4, c5, c6, rfl, t1, t2, t3, t4⟩
    have hi := (rngD_get hd).1
    walk_at "x"
    refine c_take hT (by omega) t2 t3 (by decide) (by decide) (fun r row6 m6 a1 a2 a3 a4 f6 => ?_)
    have A6 := t1.fr f6
    have F6 := frp t4 f6
    obtain ⟨r, rfl⟩ : ∃ j : Nat, r = (j : Int) := ⟨r.toNat, by omega⟩
    clear f6 t1 t2 t3 t4
    walk_at "x"
    rename_i q hq0
    have nq : q ≠ p := (ne_none a3 hq0).symm
    have hqm : m q = none := (Fr.gone F6 hq0).resolve_left fun w => nq (List.mem_singleton.mp w)
    refine ⟨fun j m7 => ∃ (ts : List D) (row7 : List D), m7 q = some (.lst ts) ∧ ts.length = j ∧ (∀ e ∈ ts, Fine 0 e) ∧ m7 p = some (.lst row7) ∧ RowOk row7 ∧ Fr [p] m6 m7, ⟨[], row6, mset_same, rfl, (fun e h => nomatch h), (mset_ne nq.symm).trans a3, a4, Fr.new (Fr.refl _ _) hq0⟩, (fun _ _ _ _ => True.intro), ?_, ?_⟩
    · rintro j e m7 hd2 ⟨ts, row7, g1, g2, g3, g4, g5, g7⟩
      have hj := (rngD_get hd2).1
      walk_at "x"
      rename_i y hy
      have ny : y ≠ p := (ne_none g4 hy).symm
      refine c_thing (deep := 0) (n := 1) hS (by omega) ((mset_ne ny.symm).trans g4) g5 mset_same ny.symm (by decide) (fun d row8 j' m8 v1 v2 v3 v4 v5 v6 v7 => ?_)
      have f78 : Fr [p] m7 m8 := Fr.sub v7 (Ins.cons (.inl List.mem_cons_self) (Ins.cons (.inr hy) Ins.nil)) (Fr.new (Fr.refl _ _) hy)
      have q8 := f78.at (fun w => nq (List.mem_singleton.mp w)) g1
      refine ⟨_, q8, Nat.lt_of_lt_of_le (show ts.length < 100 by omega) (by decide), ts ++ [d], row8, mset_same, by rw [List.length_append, g2]; rfl, fun e he' => ?_, (mset_ne nq.symm).trans v2, v3, Fr.set (frp g7 f78) (.inr hq0)⟩
      rcases List.mem_append.mp he' with he' | he'
      · exact g3 e he'
      · rw [List.mem_singleton.mp he']; exact v1
    · rintro m7 ⟨ts, row7, g1, g2, g3, g4, g5, g7⟩
      rw [rngD_length] at g2
      walk_at "x"
      refine c_take hT (by omega) g4 g5 (by omega) (by omega) (fun at_ row8 m8 b1 b2 b3 b4 f8 => ?_)
      have q8 := f8.at (fun w => nq (List.mem_singleton.mp w)) g1
      have g8 := frp g7 f8
      clear f8 g7 g4 g5
      walk_at "x"
      rename_i z hz y hy
      have len1 : (cutD ts none (some at_)).length ≤ 4 := Nat.le_trans len_cutD (by omega)
      have len2 : (cutD ts (some at_) none).length ≤ 4 := Nat.le_trans len_cutD (by omega)
      refine xf_addL ((mset_ne (ne_none mset_same hy)).trans mset_same) mset_same (by show _ + 1 ≤ _; omega) (fun w hw => ?_)
      have f9 : Fr [] m8 (mset (mset (mset m8 z (.lst (cutD ts none (some at_)))) y (.lst [d5])) w (.lst (cutD ts none (some at_) ++ [d5]))) := Fr.new (Fr.new (Fr.new (Fr.refl _ _) hz) hy) hw
      have w9 : (mset (mset (mset m8 z (.lst (cutD ts none (some at_)))) y (.lst [d5])) w (.lst (cutD ts none (some at_) ++ [d5]))) w = some (.lst (cutD ts none (some at_) ++ [d5])) := mset_same
      generalize (mset (mset (mset m8 z (.lst (cutD ts none (some at_)))) y (.lst [d5])) w (.lst (cutD ts none (some at_) ++ [d5]))) = m9 at *
      have q9 := f9.at ni_nil q8
      clear hz hy hw
      walk_at "x"
      rename_i v hv
      refine xf_addL ((mset_ne (ne_none w9 hv)).trans w9) mset_same (by rw [List.length_append]; show _ + 1 + _ ≤ _; omega) (fun u hu => ?_)
      have f10 : Fr [] m8 (mset (mset m9 v (.lst (cutD ts (some at_) none))) u (.lst (cutD ts none (some at_) ++ [d5] ++ cutD ts (some at_) none))) := Fr.new (Fr.new f9 hv) hu
      walk_at "x"
      have g10 := frp0 g8 f10
      refine ⟨_, row8, _, _, _, _, rfl, ?_, f10.at ni_nil b3, b4, frp F6 g10⟩
      have A10 := A6.fr g10
      refine An.tup (n := n + i) (by rw [List.length_append, List.length_append]; show _ + 1 + _ ≤ _; omega) fun e he' => ?_
      rcases List.mem_append.mp he' with he' | he'
      · rcases List.mem_append.mp he' with he' | he'
        · exact (Fine.an (g3 e (mem_cutD he'))).le (Nat.zero_le _)
        · rw [List.mem_singleton.mp he']; exact A10
      · exact (Fine.an (g3 e (mem_cutD he'))).le (Nat.zero_le _)
  · rintro s m5 ⟨d5, row5, c3, c4, c5, c6, rfl, t1, t2, t3, t4⟩
    rw [rngD_length] at t1
    walk_at "x"
    exact hq _ _ ⟨row5, t1, t2, t3, t4⟩
theorem c_wrapped {T : Tb} {L : Nat} {m : Mp} {k : K3} {x : X3} {p : Addr} {row : List D} {d : D} {n many : Nat} (hT : T i_law_wrapped sp_wrapped) (hL : 4 < L) (h1 : m p = some (.lst row)) (h2 : RowOk row) (h3 : An p m n d) (h4 : many ≤ 10)
    (hk : ∀ d' row' m', An p m' (n + many) d' → m' p = some (.lst row') → RowOk row' → Fr [p] m m' → k d' m') : callS T L i_law_wrapped [.ref p, d, .int (many : Nat)] m k x := by
  refine x_call hT ⟨(p, row), d, n, many⟩ hL ⟨rfl, h1, h2, h3, h4⟩ ?_ (fun _ _ h => h.elim)
  rintro d' m' ⟨row', a, b, c, e⟩
  exact hk d' row' m' a b c e
/-! put in -/
def sp_putin : FSpec where
  al := (Addr × List D) × Nat × D × D
  lev := fun a => a.2.1 + 1
  pre := fun a ds m => ds = [.ref a.1.1, a.2.2.1, a.2.2.2] ∧ m a.1.1 = some (.lst a.1.2) ∧ RowOk a.1.2 ∧ Fine a.2.1 a.2.2.1 ∧ An a.1.1 m 1 a.2.2.2
  post := fun a m d m' => ∃ row', An a.1.1 m' (a.2.1 + 1) d ∧ m' a.1.1 = some (.lst row') ∧ RowOk row' ∧ Fr [a.1.1] m m'
  exc := fun _ _ _ _ => False
theorem c_putin {T : Tb} {L : Nat} {m : Mp} {k : K3} {x : X3} {p : Addr} {row : List D} {d bd : D} {n : Nat} (hT : T i_law_put_in sp_putin) (hL : n + 1 < L) (h1 : m p = some (.lst row)) (h2 : RowOk row) (h3 : Fine n d) (h4 : An p m 1 bd)
    (hk : ∀ d' row' m', An p m' (n + 1) d' → m' p = some (.lst row') → RowOk row' → Fr [p] m m' → k d' m') : callS T L i_law_put_in [.ref p, d, bd] m k x := by
  refine x_call hT ⟨(p, row), n, d, bd⟩ hL ⟨rfl, h1, h2, h3, h4⟩ ?_ (fun _ _ h => h.elim)
  rintro d' m' ⟨row', a, b, c, e⟩
  exact hk d' row' m' a b c e
theorem b_putin (T : Tb) (hT : T i_law_take sp_take) (hS : T i_law_put_in sp_putin) : BodyOk (t_law_put_in T) N_law_put_in sp_putin 3 := by
  rintro L ⟨⟨p, row⟩, n, d, bd⟩ ds m k x hl hk hx hp hq he
  dsimp only [sp_putin] at hl hp hq he
  obtain ⟨rfl, h1, h2, h3, h4⟩ := hp
  have hA : An p m n d := Fine.an h3
  unfold t_law_put_in
  walk_at "x"
  by_cases ht : ∃ l, d = .tup l
  rotate_left
  · refine xf_isA (b := false) hA (.inr (.inr (.inr rfl))) (by cases d with
      | tup l => exact absurd ⟨l, rfl⟩ ht
      | _ => rfl) ?_
    walk_at "x"
    exact hq _ _ ⟨row, h4.le (Nat.le_add_left _ _), h1, h2, Fr.refl _ _⟩
  obtain ⟨l, rfl⟩ := ht
  obtain ⟨n', rfl, hl1, hl2⟩ := h3.parts
  refine xf_isA (b := true) hA (.inr (.inr (.inr rfl))) rfl ?_
  walk_at "x"
  refine c_take hT (by omega) h1 h2 (by decide) (by decide) (fun r row2 m2 i3 i4 i5 i6 i7 => ?_)
  have B2 := h4.fr i7
  walk_at "x"
  refine x_iD (fun h => ?_) (fun h => ?_)
  · walk_at "x"
    exact hq _ _ ⟨row2, B2.le (Nat.le_add_left _ _), i5, i6, i7⟩
  walk_at "x"
  refine c_take hT (by omega) i5 i6 (by omega) (by omega) (fun at_ row3 m3 a1 a2 a3 a4 f3 => ?_)
  have B3 := B2.fr f3
  have F3 := frp i7 f3
  clear i7 f3 i5 i6 B2
  obtain ⟨at_, rfl⟩ : ∃ j : Nat, at_ = (j : Int) := ⟨at_.toNat, by omega⟩
  have lf : ∀ {m' : Mp} {e : D}, e ∈ l → An p m' (n' + 1) e := fun he => (Fine.an (hl2 _ he)).le (Nat.le_succ _)
  walk_at "x"
  refine x_iD (fun h => ?_) (fun h => ?_)
  · walk_at "x"
    refine xf_addT (by show l.length + 1 ≤ _; omega) ?_
    refine hq _ _ ⟨row3, ?_, a3, a4, F3⟩
    refine An.tup (by rw [List.length_append]; show _ + 1 ≤ _; omega) fun e he' => ?_
    rcases List.mem_append.mp he' with he' | he'
    · exact lf he'
    · rw [List.mem_singleton.mp he']; exact B3.le (Nat.le_add_left _ _)
  have hlt : at_ < l.length := by omega
  obtain ⟨e, ee⟩ : ∃ e, l[at_]? = some e := ⟨_, List.getElem?_eq_getElem hlt⟩
  have em := List.mem_of_getElem? ee
  have e5 : atI l (at_ : Int) = some e := by rw [atI_of_nat hlt]; exact ee
  walk_at "x"
  refine xf_ixT e5 ?_
  walk_at "x"
  refine c_putin hS (by omega) a3 a4 (hl2 e em) B3 (fun d' row4 m4 b1 b2 b3 f4 => ?_)
  have len1 : (cutD l none (some (at_ : Int))).length ≤ 40 := Nat.le_trans len_cutD hl1
  have len2 : (cutD l (some ((at_ : Int) + 1)) none).length ≤ 40 := Nat.le_trans len_cutD hl1
  walk_at "x"
  refine xf_addT (by show _ + 1 ≤ _; omega) ?_
  walk_at "x"
  refine xf_addT (by rw [List.length_append]; show _ + 1 + _ ≤ _; omega) ?_
  refine hq _ _ ⟨row4, ?_, b2, b3, frp F3 f4⟩
  refine An.tup (by rw [List.length_append, List.length_append]; show _ + 1 + _ ≤ _; omega) fun y hy => ?_
  rcases List.mem_append.mp hy with hy | hy
  · rcases List.mem_append.mp hy with hy | hy
    · exact lf (mem_cutD hy)
    · rw [List.mem_singleton.mp hy]; exact b1
  · exact lf (mem_cutD hy)

/-! k01: the spoilt one -/
theorem eq_self {d : D} {pd : PyData} {m : Mp} {k : K3} (h1 : DP m d pd) (h2 : pd.depth ≤ 64) (h3 : PyData.eqv pd pd = true) (h : k (.bl true) m) : fEq d d m k := ⟨pd, pd, h1, h1, peq_l h2, by rw [h3]; exact h⟩
theorem eq_two {d e : D} {pd : PyData} {m : Mp} {k : K3} (h1 : DP m d pd) (h0 : DP m e pd) (h2 : pd.depth ≤ 64) (h3 : PyData.eqv pd pd = true) (h : k (.bl true) m) : fEq d e m k := ⟨pd, pd, h1, h0, peq_l h2, by rw [h3]; exact h⟩
theorem dps_non {m : Mp} : ∀ {n : Nat}, DPs m (List.replicate n D.non) (List.replicate n PyData.none)
  | 0 => .nil
  | n + 1 => .cons .non dps_non
theorem dep_non : ∀ {n : Nat}, PyData.depthAll (List.replicate n PyData.none) = 0
  | 0 => rfl
  | n + 1 => by
    show max (PyData.depth .none) (PyData.depthAll (List.replicate n PyData.none)) = 0
    rw [dep_non]; rfl
theorem eqv_non : ∀ {n : Nat}, PyData.eqvAll (List.replicate n PyData.none) (List.replicate n PyData.none) = true
  | 0 => rfl
  | n + 1 => by
    show (PyData.eqv .none .none && PyData.eqvAll (List.replicate n PyData.none) (List.replicate n PyData.none)) = true
    rw [eqv_non]; rfl
def sp_spoilt : FSpec where
  al := (Addr × List D) × D
  lev := fun _ => 20
  pre := fun a ds m => ds = [.ref a.1.1, a.2] ∧ m a.1.1 = some (.lst a.1.2) ∧ RowOk a.1.2 ∧ Fine 5 a.2
  post := fun a m d m' => d = .bl true ∧ ∃ row', m' a.1.1 = some (.lst row') ∧ RowOk row' ∧ Fr [a.1.1] m m'
  exc := fun _ _ _ _ => False
theorem b_spoilt (T : Tb) (hT : T i_law_take sp_take) (hB : T i_law_bad sp_bad) (hP : T i_law_put_in sp_putin) (hR : T i_law_right sp_right) (hW : T i_law_wrapped sp_wrapped) : BodyOk (t_law_spoilt_right T) N_law_spoilt_right sp_spoilt 2 := by
  rintro L ⟨⟨p, row⟩, d⟩ ds m k x hl hk hx hp hq he
  dsimp only [sp_spoilt] at hl hp hq he
  obtain ⟨rfl, h1, h2, h3⟩ := hp
  unfold t_law_spoilt_right
  walk_at "x"
  refine c_bad hB (by omega) h1 h2 (fun bd row2 m2 b2 p2 r2 f2 => ?_)
  walk_at "x"
  refine x_seqJ (fun S m' => ∃ kp, S = [some (.ref p), some d, some bd, some kp, none] ∧ BdIs p m' bd ∧ (∀ {m'' : Mp} {kk : K3}, Fr [p] m' m'' → kk (.bl true) m'' → fEqK bd kp m'' kk) ∧ m' p = some (.lst row2) ∧ Fr [p] m m') ?_ ?_
  rotate_left
  · intro nx hnx
    have out : ∀ kp, (∀ {m'' : Mp} {kk : K3}, Fr [p] m2 m'' → kk (.bl true) m'' → fEqK bd kp m'' kk) → nx [some (.ref p), some d, some bd, some kp, none] m2 := fun kp h => hnx _ _ ⟨kp, rfl, b2, h, p2, f2⟩
    cases b2 with
    | bl b =>
      walk_at "x"
      refine .inl ⟨_, _, "bool", false, rfl, .bl b, by decide +kernel, ?_⟩
      walk_at "x"
      exact out _ fun _ h => xf_eqK (xf_eqBl h)
    | @int i a1 a2 =>
      walk_at "x"
      refine .inl ⟨_, _, "int", false, rfl, .int i, by decide +kernel, ?_⟩
      walk_at "x"
      exact out _ fun _ h => xf_eqK (eq_self (.int i) (Nat.zero_le _) (by rw [eqv_int]; exact decide_eq_true rfl) h)
    | @str z a1 a2 =>
      walk_at "x"
      refine .inl ⟨_, _, "str", false, rfl, .str z, by decide +kernel, ?_⟩
      walk_at "x"
      exact out _ fun _ h => xf_eqK (eq_self (.str z) (Nat.zero_le _) (by rw [eqv_str]; exact decide_eq_true rfl) h)
    | @tup n a1 =>
      walk_at "x"
      refine .inl ⟨_, _, "tuple", false, rfl, .tup _, by decide +kernel, ?_⟩
      walk_at "x"
      exact out _ fun _ h => xf_eqK (eq_self (.tup dps_non) (by show PyData.depthAll _ + 1 ≤ 64; rw [dep_non]; decide) (by simp only [PyData.eqv]; exact eqv_non) h)
    | @dic q a1 a2 =>
      walk_at "x"
      refine .inl ⟨_, _, "dict", false, rfl, .dK a2, by decide +kernel, ?_⟩
      walk_at "x"
      exact out _ fun f h => xf_eqKd (f.at (fun w => a1 (List.mem_singleton.mp w)) a2) h
    | @exc q a1 a2 =>
      walk_at "x"
      refine xf_isiE a2 (by decide) ?_
      walk_at "x"
      exact out _ fun f h => xf_eqKe (f.at (fun w => a1 (List.mem_singleton.mp w)) a2) h
    | @lst q l a1 a2 a3 =>
      walk_at "x"
      refine .inl ⟨_, _, "list", true, rfl, .lst (.inl a2), by decide +kernel, ?_⟩
      walk_at "x"
      refine xf_lstL (.inl a2) (fun z hz => ?_)
      walk_at "x"
      have fz : Fr [] m2 (mset m2 z (.lst l)) := Fr.new (Fr.refl _ _) hz
      have nz : z ≠ p := (ne_none p2 hz).symm
      have z2 : (mset m2 z (.lst l)) z = some (.lst l) := mset_same
      refine hnx _ _ ⟨_, rfl, (BdIs.lst a1 a2 a3).fr0 fz, fun {m''} {kk} f h => ?_, fz.at ni_nil p2, frp0 f2 fz⟩
      have q' := f.at (fun w => a1 (List.mem_singleton.mp w)) (fz.at ni_nil a2)
      have z' := f.at (fun w => nz (List.mem_singleton.mp w)) z2
      rcases a3 with rfl | rfl | rfl
      · exact xf_eqK (eq_two (pd := .list []) (.lst (.inl q') .nil) (.lst (.inl z') .nil) (by decide) rfl h)
      · exact xf_eqK (eq_two (pd := .list [.int 1]) (.lst (.inl q') (.cons (.int 1) .nil)) (.lst (.inl z') (.cons (.int 1) .nil)) (by decide) (by decide +kernel) h)
      · exact xf_eqK (eq_two (pd := .list [.str (Str.ofString "a"), .tuple []]) (.lst (.inl q') (.cons (.str _) (.cons (.tup .nil) .nil))) (.lst (.inl z') (.cons (.str _) (.cons (.tup .nil) .nil))) (by decide +kernel) (by decide +kernel) h)
  rintro S m3 ⟨kp, rfl, b3, heq, p3, f3⟩
  walk_at "x"
  refine c_putin hP (by omega) p3 r2 h3 b3.an (fun wh row4 m4 a4 p4 r4 f4 => ?_)
  have b4 := b3.fr f4
  have G4 := f4
  have F4 := frp f3 f4
  clear f4
  walk_at "x"
  refine c_take hT (by omega) p4 r4 (by decide) (by decide) (fun r row5 m5 i1 i2 p5 r5 f5 => ?_)
  have G5 := frp G4 f5
  have F5 := frp F4 f5
  obtain ⟨r, rfl⟩ : ∃ j : Nat, r = (j : Int) := ⟨r.toNat, by omega⟩
  walk_at "x"
  refine c_wrapped hW (by omega) p5 r5 (a4.fr f5) (by omega) (fun d6 row6 m6 a6 p6 r6 f6 => ?_)
  have b6 := (b4.fr f5).fr f6
  have G6 := frp G5 f6
  have F6 := frp F5 f6
  clear f5 f6 b4 G4 F4 G5 F5
  walk_at "x"
  refine c_right hR (by omega) a6 (fun m7 f7 => ?_)
  have b7 := b6.fr0 f7
  have p7 := f7.at ni_nil p6
  have G7 := frp0 G6 f7
  have F7 := frp0 F6 f7
  clear f7 b6 G6 F6 a6
  walk_at "x"
  refine c_wrapped (many := 1) hW (by omega) p7 r6 b7.an (by omega) (fun d8 row8 m8 a8 p8 r8 f8 => ?_)
  have b8 := b7.fr f8
  have G8 := frp G7 f8
  have F8 := frp F7 f8
  clear f8 b7 G7 F7
  walk_at "x"
  refine c_right hR (by omega) a8 (fun m9 f9 => ?_)
  have b9 := b8.fr0 f9
  have p9 := f9.at ni_nil p8
  have G9 := frp0 G8 f9
  have F9 := frp0 F8 f9
  clear f9 b8 G8 F8 a8
  walk_at "x"
  refine c_take hT (by omega) p9 r8 (by decide) (by decide) (fun rr row10 m10 i3 i4 p10 r10 f10 => ?_)
  have b10 := b9.fr f10
  have G10 := frp G9 f10
  have F10 := frp F9 f10
  clear f10 b9 G9 F9
  walk_at "x"
  refine xf_mulT (by simp) (by omega) (by omega) (by decide) ?_
  rw [show (List.replicate (38 + rr).toNat [D.non]).flatten = List.replicate (38 + rr).toNat D.non from List.flatten_replicate_singleton]
  have hn : (38 + rr).toNat ≤ 60 := by omega
  generalize (38 + rr).toNat = nn at *
  walk_at "x"
  refine xf_addT (by rw [List.length_replicate]; show nn + 1 ≤ _; omega) ?_
  walk_at "x"
  refine c_right (p := p) (n := 2) hR (by omega) (An.tup (by rw [List.length_append, List.length_replicate]; show nn + 1 ≤ _; omega) fun e he' => ?_) (fun m11 f11 => ?_)
  · rcases List.mem_append.mp he' with he' | he'
    · rw [List.eq_of_mem_replicate he']; exact .leaf (.inl rfl)
    · rw [List.mem_singleton.mp he']; exact b10.an
  walk_at "x"
  exact heq (frp0 G10 f11) (hq _ _ ⟨rfl, row10, f11.at ni_nil p10, r10, frp0 F10 f11⟩)
theorem c_spoilt {T : Tb} {L : Nat} {m : Mp} {k : K3} {x : X3} {p : Addr} {row : List D} {d : D} (hT : T i_law_spoilt_right sp_spoilt) (hL : 20 < L) (h1 : m p = some (.lst row)) (h2 : RowOk row) (h3 : Fine 5 d)
    (hk : ∀ row' m', m' p = some (.lst row') → RowOk row' → Fr [p] m m' → k (.bl true) m') : callS T L i_law_spoilt_right [.ref p, d] m k x := by
  refine x_call hT ⟨(p, row), d⟩ hL ⟨rfl, h1, h2, h3⟩ ?_ (fun _ _ h => h.elim)
  rintro _ m' ⟨rfl, row', a, b, c⟩
  exact hk row' m' a b c

/-! k01: the law -/
def sp_law : FSpec where
  al := Addr × List Int
  lev := fun _ => 22
  pre := fun a ds m => ds = [.ref a.1] ∧ Scr m a.1 (a.2.map D.int)
  post := fun a m d m' => d = .bl true
  exc := fun _ _ _ _ => False
theorem b_law (T : Tb) (hC : T i_law_cell_at sp_cell) (hS : T i_law_stream sp_stream) (hTh : T i_law_thing sp_thing) (hI : T i_is_thing sp_isthing) (hT : T i_law_take sp_take) (hW : T i_law_wrapped sp_wrapped) (hR : T i_law_right sp_right) (hSp : T i_law_spoilt_right sp_spoilt) : BodyOk (t_law T) N_law sp_law 1 := by
  rintro L ⟨p, ns⟩ ds m k x hl hk hx hp hq he
  dsimp only [sp_law] at hl hp hq he
  obtain ⟨rfl, hr⟩ := hp
  unfold t_law
  walk_at "x"
  refine c_cell hC (by omega) hr.rl (by decide) (fun r => ?_)
  walk_at "x"
  generalize r % 2 = wy
  rename_i z1 hz1
  refine xf_slL (l := ns.map D.int) (hr.new hz1).rl (fun z hz => ?_)
  have hlen : (cutD (ns.map D.int) none (some 63)).length ≤ 63 := len_cutD_n (n := 63)
  have hint : ∀ d ∈ cutD (ns.map D.int) none (some 63), ∃ c, d = .int c := fun d hd => by
    obtain ⟨c, _, h⟩ := List.mem_map.mp (mem_cutD hd)
    exact ⟨c, h.symm⟩
  generalize cutD (ns.map D.int) none (some 63) = cs at *
  refine xf_addL ((mset_ne (ne_none mset_same hz)).trans mset_same) mset_same (by show 1 + cs.length ≤ _; omega) (fun y hy => ?_)
  have F4 : Fr [] m (mset (mset (mset m z1 (.lst [.int 0])) z (.lst cs)) y (.lst ([.int 0] ++ cs))) := Fr.new (Fr.new (Fr.new (Fr.refl _ _) hz1) hz) hy
  have y4 : (mset (mset (mset m z1 (.lst [.int 0])) z (.lst cs)) y (.lst ([.int 0] ++ cs))) y = some (.lst ([.int 0] ++ cs)) := mset_same
  generalize mset (mset (mset m z1 (.lst [.int 0])) z (.lst cs)) y (.lst ([.int 0] ++ cs)) = m4 at *
  have hint : ∀ d ∈ [D.int 0] ++ cs, ∃ c, d = .int c := fun d hd => by
    rcases List.mem_append.mp hd with hd | hd
    · exact ⟨0, List.mem_singleton.mp hd⟩
    · exact hint d hd
  generalize [D.int 0] ++ cs = ls at *
  clear hz1 hz hy
  walk_at "x"
  refine for3 (fun i s m5 => (∃ c2 c3 c4, s = [some (.ref p), some (.int wy), c2, c3, c4]) ∧ m5 y = some (.lst ls) ∧ Fr [] m m5) ⟨⟨_, _, _, rfl⟩, y4, F4⟩ (fun i s m5 _ h => .inl h.2.1) ?_ ?_
  · clear F4 y4
    rintro i e s m5 hd ⟨⟨c2, c3, c4, rfl⟩, y5, F5⟩
    obtain ⟨c, rfl⟩ := hint e (List.mem_of_getElem? hd)
    walk_at "x"
    refine c_stream hS (by omega) (fun q row hq0 hrow => ?_)
    have q6 : (mset m5 q (.lst row)) q = some (.lst row) := mset_same
    have y6 : (mset m5 q (.lst row)) y = some (.lst ls) := (mset_ne (ne_none y5 hq0)).trans y5
    have nqy : y ≠ q := ne_none y5 hq0
    have hqm : m q = none := (Fr.gone F5 hq0).resolve_left ni_nil
    have F6 : Fr [] m (mset m5 q (.lst row)) := Fr.new F5 hq0
    generalize mset m5 q (.lst row) = m6 at *
    clear hq0 y5 F5
    walk_at "x"
    rename_i v hv
    have nvq : v ≠ q := (ne_none q6 hv).symm
    have nvy : v ≠ y := (ne_none y6 hv).symm
    have hvm : m v = none := (Fr.gone F6 hv).resolve_left ni_nil
    refine c_thing (deep := 5) (n := 30) hTh (by omega) ((mset_ne nvq.symm).trans q6) hrow mset_same nvq.symm (by decide) (fun d row8 j' m8 v1 v2 v3 v4 v5 v6 v7 => ?_)
    have y8 : m8 y = some (.lst ls) := v7.at (fun w => by
      rcases List.mem_cons.mp w with w | w
      · exact nqy w
      · exact nvy (List.mem_singleton.mp w).symm) ((mset_ne nvy.symm).trans y6)
    have F8 : Fr [] m m8 := Fr.sub v7 (Ins.cons (.inr hqm) (Ins.cons (.inr hvm) Ins.nil)) (Fr.new F6 hv)
    have up : ∀ {m' m'' : Mp}, Fr [] m m' → Fr [q] m' m'' → Fr [] m m'' := fun f g => Fr.sub g (Ins.cons (.inr hqm) Ins.nil) f
    have ky : ∀ {m' m'' : Mp}, m' y = some (.lst ls) → Fr [q] m' m'' → m'' y = some (.lst ls) := fun e g => g.at (fun w => nqy (List.mem_singleton.mp w)) e
    clear v7 hv y6 q6 F6 v5 v6 v4
    walk_at "x"
    refine c_isthing (p := q) (n := 5) hI (by omega) (Fine.an v1) ?_
    rw [dcT v1]
    walk_at "x"
    refine c_take hT (by omega) v2 v3 (by decide) (by decide) (fun r9 row9 m9 i1 i2 i3 i4 f9 => ?_)
    have y9 := ky y8 f9
    have F9 := up F8 f9
    obtain ⟨r9, rfl⟩ : ∃ j : Nat, r9 = (j : Int) := ⟨r9.toNat, by omega⟩
    clear f9 y8 F8 v2 v3
    walk_at "x"
    rw [show (1 : Int) + (r9 : Int) = ((1 + r9 : Nat) : Int) by omega]
    refine c_wrapped (n := 5) hW (by omega) i3 i4 (Fine.an v1) (by omega) (fun d10 row10 m10 a10 p10 r10 f10 => ?_)
    have y10 := ky y9 f10
    have F10 := up F9 f10
    clear f10 y9 F9 i3 i4
    walk_at "x"
    refine c_right hR (by omega) a10 (fun m11 f11 => ?_)
    have y11 := f11.at ni_nil y10
    have p11 := f11.at ni_nil p10
    have F11 := frt F10 f11
    clear f11 y10 p10 F10 a10
    walk_at "x"
    refine c_spoilt hSp (by omega) p11 r10 v1 (fun row12 m12 p12 r12 f12 => ?_)
    have y12 := ky y11 f12
    have F12 := up F11 f12
    clear f12 y11 p11 F11
    walk_at "x"
    refine c_take hT (by omega) p12 r12 (by decide) (by decide) (fun rr row13 m13 i1 i2 i3 i4 f13 => ?_)
    have y13 := ky y12 f13
    have F13 := up F12 f13
    clear f13 y12 F12
    walk_at "x"
    refine xf_mulT (by simp) (by omega) (by omega) (by decide) ?_
    rw [show (List.replicate (38 + rr).toNat [D.non]).flatten = List.replicate (38 + rr).toNat D.non from List.flatten_replicate_singleton]
    have hn : (38 + rr).toNat ≤ 60 := by omega
    generalize (38 + rr).toNat = nn at *
    walk_at "x"
    refine xf_addT (by rw [List.length_replicate]; show nn + 1 ≤ _; omega) ?_
    walk_at "x"
    refine c_right (p := q) (n := 6) hR (by omega) (An.tup (by rw [List.length_append, List.length_replicate]; show nn + 1 ≤ _; omega) fun e he' => ?_) (fun m14 f14 => ?_)
    · rcases List.mem_append.mp he' with he' | he'
      · rw [List.eq_of_mem_replicate he']; exact .leaf (.inl rfl)
      · rw [List.mem_singleton.mp he']; exact Fine.an v1
    walk_at "x"
    exact ⟨⟨_, _, _, rfl⟩, f14.at ni_nil y13, frt F13 f14⟩
  · rintro s m5 ⟨⟨c2, c3, c4, rfl⟩, y5, F5⟩
    walk_at "x"
    refine c_isthing (p := 0) (n := 1) hI (by omega) (An.tup (by decide) fun e h => nomatch h) ?_
    rw [dcT (show Fine 5 (.tup []) from Fine.tup (by decide) fun e h => nomatch h)]
    walk_at "x"
    refine c_isthing (p := 0) (n := 1) hI (by omega) (.leaf (.inr (.inr (.inr (.inl ⟨_, rfl, by decide +kernel, by decide +kernel⟩))))) ?_
    have hnil : (Str.ofString "").cps.toList = [] := by decide +kernel
    have hfs : Fine 5 (.str (Str.ofString "")) := Fine.str ⟨by rw [hnil]; decide, by rw [hnil]; exact fun c hc => nomatch hc⟩
    rw [dcT hfs]
    walk_at "x"
    rename_i z hz
    refine c_isthing (p := z + 1) (n := 1) hI (by omega) (.leaf (.inr (.inr (.inr (.inr ⟨z, rfl, (Nat.succ_ne_self z).symm, .inl ⟨_, mset_same⟩⟩))))) ?_
    rw [dcF (show ¬ Fine 5 (.ref z) from fun h => h)]
    walk_at "x"
    exact hq _ _ rfl

def top (i : Nat) : Stmt := PySem.Challenge.pw_papervault_k01_what_is_a_thing.main.body.getD i (.Pass ⟨0, 0, 0, 0⟩)
structure Wd (P : Program) (w : World) (K : PySem.W.Frag) (mg : Str → Option Value) (base : Heap) (cl : Cl) (T : Tb) (ad : Nat → Addr) (L : Nat) : Prop where
  f_is_number : Kn P w K mg base cl T L 20 (Str.ofString "is_number") (ad 20)
  f_is_text : Kn P w K mg base cl T L 21 (Str.ofString "is_text") (ad 21)
  f_is_within : Kn P w K mg base cl T L 22 (Str.ofString "is_within") (ad 22)
  f_is_thing : Kn P w K mg base cl T L 29 (Str.ofString "is_thing") (ad 29)
  f__law_cell_at : Kn P w K mg base cl T L 9 (Str.ofString "_law_cell_at") (ad 9)
  f__law_stream : Kn P w K mg base cl T L 10 (Str.ofString "_law_stream") (ad 10)
  f__law_take : Kn P w K mg base cl T L 3 (Str.ofString "_law_take") (ad 3)
  f__law_number : Kn P w K mg base cl T L 4 (Str.ofString "_law_number") (ad 4)
  f__law_text : Kn P w K mg base cl T L 5 (Str.ofString "_law_text") (ad 5)
  f__law_thing : Kn P w K mg base cl T L 6 (Str.ofString "_law_thing") (ad 6)
  f__law_bad : Kn P w K mg base cl T L 24 (Str.ofString "_law_bad") (ad 24)
  f__law_wrapped : Kn P w K mg base cl T L 25 (Str.ofString "_law_wrapped") (ad 25)
  f__law_put_in : Kn P w K mg base cl T L 23 (Str.ofString "_law_put_in") (ad 23)
  f__law_spoilt_right : Kn P w K mg base cl T L 30 (Str.ofString "_law_spoilt_right") (ad 30)
  f__law_deep : Kn P w K mg base cl T L 27 (Str.ofString "_law_deep") (ad 27)
  f__law_fine : Kn P w K mg base cl T L 28 (Str.ofString "_law_fine") (ad 28)
  f__law_right : Kn P w K mg base cl T L 26 (Str.ofString "_law_right") (ad 26)
  b_abs : mg (Str.ofString "abs") = none
  b_bool : mg (Str.ofString "bool") = none
  b_int : mg (Str.ofString "int") = none
  b_isinstance : mg (Str.ofString "isinstance") = none
  b_len : mg (Str.ofString "len") = none
  b_list : mg (Str.ofString "list") = none
  b_max : mg (Str.ofString "max") = none
  b_min : mg (Str.ofString "min") = none
  b_ord : mg (Str.ofString "ord") = none
  b_range : mg (Str.ofString "range") = none
  b_str : mg (Str.ofString "str") = none
  b_tuple : mg (Str.ofString "tuple") = none
  ex : ExK K mg cl
  x_NoThing : ∃ a, cl "NoThing" = some a
  c_DEEPEST : ∃ u, mg (Str.ofString "DEEPEST") = some u ∧ RelV (.int 5) u
  c_MOST_NUMBER : ∃ u, mg (Str.ofString "MOST_NUMBER") = some u ∧ RelV (.int 1000000000000000000000000000000) u
  c_MOST_SIGNS : ∃ u, mg (Str.ofString "MOST_SIGNS") = some u ∧ RelV (.int 60) u
  c_MOST_THINGS : ∃ u, mg (Str.ofString "MOST_THINGS") = some u ∧ RelV (.int 40) u
section
variable {P : Program} {w : World} {K : PySem.W.Frag} {mg : Str → Option Value} {base : Heap} {cl : Cl} {T : Tb} {ad : Nat → Addr} {L : Nat}
abbrev st_is_number : Stmt := top 8
theorem sc_is_number : FnScope N_is_number [(Str.ofString "thing")] (defScope st_is_number) := ⟨rfl, rfl, rfl, by decide +kernel, rfl, by decide +kernel, by decide +kernel⟩
theorem d_is_number (G : Wd P w K mg base cl T ad L) {f : Addr} (cdv : Value) (A : Around) (outer : List Env) (s : Shared) (H : Hp) (E : XK) (hr : Room L (A.deeper (envOfC (Str.ofString "is_number") (defScope st_is_number) s.heap.objs.size f cdv))) :
    QB (cxOf (L2.CX P w) P w K mg base N_is_number (Str.ofString "is_number") (defScope st_is_number) f cdv A outer s H E) cl (fun c d _ H => E c d H) (defBody st_is_number) (t_is_number T L) := by
  have S := sc_is_number
  have tk : Takes (cxOf (L2.CX P w) P w K mg base N_is_number (Str.ofString "is_number") (defScope st_is_number) f cdv A outer s H E) (fun c d _ H => E c d H) := takes_of rfl rfl rfl rfl
  have pw : PassesOwn (model P w) (A.deeper (envOfC (Str.ofString "is_number") (defScope st_is_number) s.heap.objs.size f cdv)) (envOfC (Str.ofString "is_number") (defScope st_is_number) s.heap.objs.size f cdv) (cxOf (L2.CX P w) P w K mg base N_is_number (Str.ofString "is_number") (defScope st_is_number) f cdv A outer s H E).xe := passes_of rfl
  exact (qb_one (qs_ret (q_and (q_isiX G.ex rfl G.b_isinstance (qa_cons (q_var (i := 0) rfl (Or.inl rfl) rfl rfl) (qa_cons (q_ty (by decide +kernel) (by decide) rfl rfl G.b_int) qa_nil rfl) rfl) rfl rfl) (q_and (q_not (q_isiX G.ex rfl G.b_isinstance (qa_cons (q_var (i := 0) rfl (Or.inl rfl) rfl rfl) (qa_cons (q_ty (by decide +kernel) (by decide) rfl rfl G.b_bool) qa_nil rfl) rfl) rfl rfl)) (q_one (q_chain op_le op_le (by decide) (by decide) (by decide) (by decide) (q_neg (q_con (v := (.int 1000000000000000000000000000000)) rfl G.c_MOST_NUMBER (fun _ => rfl) rfl)) (q_var (i := 0) rfl (Or.inl rfl) rfl rfl) (q_con (v := (.int 1000000000000000000000000000000)) rfl G.c_MOST_NUMBER (fun _ => rfl) rfl)))))))
abbrev st_is_text : Stmt := top 9
theorem sc_is_text : FnScope N_is_text [(Str.ofString "thing")] (defScope st_is_text) := ⟨rfl, rfl, rfl, by decide +kernel, rfl, by decide +kernel, by decide +kernel⟩
theorem d_is_text (G : Wd P w K mg base cl T ad L) {f : Addr} (cdv : Value) (A : Around) (outer : List Env) (s : Shared) (H : Hp) (E : XK) (hr : Room L (A.deeper (envOfC (Str.ofString "is_text") (defScope st_is_text) s.heap.objs.size f cdv))) :
    QB (cxOf (L2.CX P w) P w K mg base N_is_text (Str.ofString "is_text") (defScope st_is_text) f cdv A outer s H E) cl (fun c d _ H => E c d H) (defBody st_is_text) (t_is_text T L) := by
  have S := sc_is_text
  have tk : Takes (cxOf (L2.CX P w) P w K mg base N_is_text (Str.ofString "is_text") (defScope st_is_text) f cdv A outer s H E) (fun c d _ H => E c d H) := takes_of rfl rfl rfl rfl
  have pw : PassesOwn (model P w) (A.deeper (envOfC (Str.ofString "is_text") (defScope st_is_text) s.heap.objs.size f cdv)) (envOfC (Str.ofString "is_text") (defScope st_is_text) s.heap.objs.size f cdv) (cxOf (L2.CX P w) P w K mg base N_is_text (Str.ofString "is_text") (defScope st_is_text) f cdv A outer s H E).xe := passes_of rfl
  exact (qb_cons (qs_if (t_w (w_or (t_not (t_tru (q_isiX G.ex rfl G.b_isinstance (qa_cons (q_var (i := 0) rfl (Or.inl rfl) rfl rfl) (qa_cons (q_ty (by decide +kernel) (by decide) rfl rfl G.b_str) qa_nil rfl) rfl) rfl rfl) (fun _ => rfl))) (w_or1 (t_gt  (q_len rfl G.b_len (qa_cons (q_var (i := 0) rfl (Or.inl rfl) rfl rfl) qa_nil rfl) rfl rfl) (q_con (v := (.int 60)) rfl G.c_MOST_SIGNS (fun _ => rfl) rfl))))) (qb_one (qs_ret q_bl)) qb_nil)
    (qb_cons (qs_for pw rfl (qi_seq (q_var (i := 0) rfl (Or.inl rfl) rfl rfl)) (qg_name (i := 1) S.nd rfl (Or.inl rfl) (Or.inl rfl)) (qb_one (qs_if (t_w (w_or (t_not (t_chain op_le op_le (by decide) (by decide) q_int (q_ord rfl G.b_ord (qa_cons (q_var (i := 1) rfl (Or.inl rfl) rfl rfl) qa_nil rfl) rfl rfl) q_int)) (w_or1 (t_eq hr.units (q_ord rfl G.b_ord (qa_cons (q_var (i := 1) rfl (Or.inl rfl) rfl rfl) qa_nil rfl) rfl rfl) q_int)))) (qb_one (qs_ret q_bl)) qb_nil)) (fun _ => rfl))
    (qb_one (qs_ret q_bl))))
abbrev st_is_within : Stmt := top 10
theorem sc_is_within : FnScope N_is_within [(Str.ofString "thing"), (Str.ofString "deep")] (defScope st_is_within) := ⟨rfl, rfl, rfl, by decide +kernel, rfl, by decide +kernel, by decide +kernel⟩
theorem d_is_within (G : Wd P w K mg base cl T ad L) {f : Addr} (cdv : Value) (A : Around) (outer : List Env) (s : Shared) (H : Hp) (E : XK) (hr : Room L (A.deeper (envOfC (Str.ofString "is_within") (defScope st_is_within) s.heap.objs.size f cdv))) :
    QB (cxOf (L2.CX P w) P w K mg base N_is_within (Str.ofString "is_within") (defScope st_is_within) f cdv A outer s H E) cl (fun c d _ H => E c d H) (defBody st_is_within) (t_is_within T L) := by
  have S := sc_is_within
  have tk : Takes (cxOf (L2.CX P w) P w K mg base N_is_within (Str.ofString "is_within") (defScope st_is_within) f cdv A outer s H E) (fun c d _ H => E c d H) := takes_of rfl rfl rfl rfl
  have pw : PassesOwn (model P w) (A.deeper (envOfC (Str.ofString "is_within") (defScope st_is_within) s.heap.objs.size f cdv)) (envOfC (Str.ofString "is_within") (defScope st_is_within) s.heap.objs.size f cdv) (cxOf (L2.CX P w) P w K mg base N_is_within (Str.ofString "is_within") (defScope st_is_within) f cdv A outer s H E).xe := passes_of rfl
  exact (qb_cons (qs_if (t_w (w_or (t_is  (q_var (i := 0) rfl (Or.inl rfl) rfl rfl) q_non) (w_or (t_tru (q_call tk ⟨G.f_is_number, hr⟩ rfl rfl (qa_cons (q_var (i := 0) rfl (Or.inl rfl) rfl rfl) qa_nil rfl) rfl rfl) (fun _ => rfl)) (w_or1 (t_tru (q_call tk ⟨G.f_is_text, hr⟩ rfl rfl (qa_cons (q_var (i := 0) rfl (Or.inl rfl) rfl rfl) qa_nil rfl) rfl rfl) (fun _ => rfl)))))) (qb_one (qs_ret q_bl)) qb_nil)
    (qb_cons (qs_if (t_w (w_or (t_not (t_tru (q_isiX G.ex rfl G.b_isinstance (qa_cons (q_var (i := 0) rfl (Or.inl rfl) rfl rfl) (qa_cons (q_ty (by decide +kernel) (by decide) rfl rfl G.b_tuple) qa_nil rfl) rfl) rfl rfl) (fun _ => rfl))) (w_or (t_eq hr.units (q_var (i := 1) rfl (Or.inl rfl) rfl rfl) q_int) (w_or1 (t_gt  (q_len rfl G.b_len (qa_cons (q_var (i := 0) rfl (Or.inl rfl) rfl rfl) qa_nil rfl) rfl rfl) (q_con (v := (.int 40)) rfl G.c_MOST_THINGS (fun _ => rfl) rfl)))))) (qb_one (qs_ret q_bl)) qb_nil)
    (qb_cons (qs_for pw rfl (qi_seq (q_var (i := 0) rfl (Or.inl rfl) rfl rfl)) (qg_name (i := 2) S.nd rfl (Or.inl rfl) (Or.inl rfl)) (qb_one (qs_if (t_not (t_tru (q_call tk ⟨G.f_is_within, hr⟩ rfl rfl (qa_cons (q_var (i := 2) rfl (Or.inl rfl) rfl rfl) (qa_cons (q_sub (q_var (i := 1) rfl (Or.inl rfl) rfl rfl) q_int) qa_nil rfl) rfl) rfl rfl) (fun _ => rfl))) (qb_one (qs_ret q_bl)) qb_nil)) (fun _ => rfl))
    (qb_one (qs_ret q_bl)))))
abbrev st_is_thing : Stmt := top 11
theorem sc_is_thing : FnScope N_is_thing [(Str.ofString "thing")] (defScope st_is_thing) := ⟨rfl, rfl, rfl, by decide +kernel, rfl, by decide +kernel, by decide +kernel⟩
theorem d_is_thing (G : Wd P w K mg base cl T ad L) {f : Addr} (cdv : Value) (A : Around) (outer : List Env) (s : Shared) (H : Hp) (E : XK) (hr : Room L (A.deeper (envOfC (Str.ofString "is_thing") (defScope st_is_thing) s.heap.objs.size f cdv))) :
    QB (cxOf (L2.CX P w) P w K mg base N_is_thing (Str.ofString "is_thing") (defScope st_is_thing) f cdv A outer s H E) cl (fun c d _ H => E c d H) (defBody st_is_thing) (t_is_thing T L) := by
  have S := sc_is_thing
  have tk : Takes (cxOf (L2.CX P w) P w K mg base N_is_thing (Str.ofString "is_thing") (defScope st_is_thing) f cdv A outer s H E) (fun c d _ H => E c d H) := takes_of rfl rfl rfl rfl
  have pw : PassesOwn (model P w) (A.deeper (envOfC (Str.ofString "is_thing") (defScope st_is_thing) s.heap.objs.size f cdv)) (envOfC (Str.ofString "is_thing") (defScope st_is_thing) s.heap.objs.size f cdv) (cxOf (L2.CX P w) P w K mg base N_is_thing (Str.ofString "is_thing") (defScope st_is_thing) f cdv A outer s H E).xe := passes_of rfl
  exact (qb_one (qs_ret (q_call tk ⟨G.f_is_within, hr⟩ rfl rfl (qa_cons (q_var (i := 0) rfl (Or.inl rfl) rfl rfl) (qa_cons (q_con (v := (.int 5)) rfl G.c_DEEPEST (fun _ => rfl) rfl) qa_nil rfl) rfl) rfl rfl)))
abbrev st_law_cell_at : Stmt := top 13
theorem sc_law_cell_at : FnScope N_law_cell_at [(Str.ofString "script"), (Str.ofString "k")] (defScope st_law_cell_at) := ⟨rfl, rfl, rfl, by decide +kernel, rfl, by decide +kernel, by decide +kernel⟩
theorem d_law_cell_at (G : Wd P w K mg base cl T ad L) {f : Addr} (cdv : Value) (A : Around) (outer : List Env) (s : Shared) (H : Hp) (E : XK) (hr : Room L (A.deeper (envOfC (Str.ofString "_law_cell_at") (defScope st_law_cell_at) s.heap.objs.size f cdv))) :
    QB (cxOf (L2.CX P w) P w K mg base N_law_cell_at (Str.ofString "_law_cell_at") (defScope st_law_cell_at) f cdv A outer s H E) cl (fun c d _ H => E c d H) (defBody st_law_cell_at) (t_law_cell_at T L) := by
  have S := sc_law_cell_at
  have tk : Takes (cxOf (L2.CX P w) P w K mg base N_law_cell_at (Str.ofString "_law_cell_at") (defScope st_law_cell_at) f cdv A outer s H E) (fun c d _ H => E c d H) := takes_of rfl rfl rfl rfl
  have pw : PassesOwn (model P w) (A.deeper (envOfC (Str.ofString "_law_cell_at") (defScope st_law_cell_at) s.heap.objs.size f cdv)) (envOfC (Str.ofString "_law_cell_at") (defScope st_law_cell_at) s.heap.objs.size f cdv) (cxOf (L2.CX P w) P w K mg base N_law_cell_at (Str.ofString "_law_cell_at") (defScope st_law_cell_at) f cdv A outer s H E).xe := passes_of rfl
  exact (qb_cons (qs_if (t_lt hr.units (q_var (i := 1) rfl (Or.inl rfl) rfl rfl) (q_len rfl G.b_len (qa_cons (q_var (i := 0) rfl (Or.inl rfl) rfl rfl) qa_nil rfl) rfl rfl)) (qb_one (qs_ret (q_ix hr.units (q_var (i := 0) rfl (Or.inl rfl) rfl rfl) (q_var (i := 1) rfl (Or.inl rfl) rfl rfl) (fun _ _ => rfl)))) qb_nil)
    (qb_one (qs_ret q_int)))
abbrev st_law_stream : Stmt := top 14
theorem sc_law_stream : FnScope N_law_stream [(Str.ofString "cell"), (Str.ofString "way")] (defScope st_law_stream) := ⟨rfl, rfl, rfl, by decide +kernel, rfl, by decide +kernel, by decide +kernel⟩
theorem d_law_stream (G : Wd P w K mg base cl T ad L) {f : Addr} (cdv : Value) (A : Around) (outer : List Env) (s : Shared) (H : Hp) (E : XK) (hr : Room L (A.deeper (envOfC (Str.ofString "_law_stream") (defScope st_law_stream) s.heap.objs.size f cdv))) :
    QB (cxOf (L2.CX P w) P w K mg base N_law_stream (Str.ofString "_law_stream") (defScope st_law_stream) f cdv A outer s H E) cl (fun c d _ H => E c d H) (defBody st_law_stream) (t_law_stream T L) := by
  have S := sc_law_stream
  have tk : Takes (cxOf (L2.CX P w) P w K mg base N_law_stream (Str.ofString "_law_stream") (defScope st_law_stream) f cdv A outer s H E) (fun c d _ H => E c d H) := takes_of rfl rfl rfl rfl
  have pw : PassesOwn (model P w) (A.deeper (envOfC (Str.ofString "_law_stream") (defScope st_law_stream) s.heap.objs.size f cdv)) (envOfC (Str.ofString "_law_stream") (defScope st_law_stream) s.heap.objs.size f cdv) (cxOf (L2.CX P w) P w K mg base N_law_stream (Str.ofString "_law_stream") (defScope st_law_stream) f cdv A outer s H E).xe := passes_of rfl
  exact (qb_cons (qs_if (t_eq hr.units (q_var (i := 1) rfl (Or.inl rfl) rfl rfl) q_int) (qb_one (qs_ret (q_lst (qa_cons (q_var (i := 0) rfl (Or.inl rfl) rfl rfl) (qa_cons q_int qa_nil rfl) rfl)))) qb_nil)
    (qb_cons (qs_asg (q_mod (q_var (i := 0) rfl (Or.inl rfl) rfl rfl) q_int) (qg_name (i := 2) S.nd rfl (Or.inl rfl) (Or.inl rfl)) rfl rfl rfl)
    (qb_cons (qs_asg (q_mod (q_add (q_mul (q_mod (q_mul (q_var (i := 2) rfl (Or.inl rfl) rfl rfl) (q_var (i := 2) rfl (Or.inl rfl) rfl rfl)) q_int) (q_add (q_var (i := 2) rfl (Or.inl rfl) rfl rfl) q_int)) q_int) q_int) (qg_name (i := 2) S.nd rfl (Or.inl rfl) (Or.inl rfl)) rfl rfl rfl)
    (qb_one (qs_ret (q_lst (qa_cons (q_var (i := 2) rfl (Or.inl rfl) rfl rfl) (qa_cons q_int qa_nil rfl) rfl)))))))
abbrev st_law_take : Stmt := top 15
theorem sc_law_take : FnScope N_law_take [(Str.ofString "row"), (Str.ofString "many")] (defScope st_law_take) := ⟨rfl, rfl, rfl, by decide +kernel, rfl, by decide +kernel, by decide +kernel⟩
theorem d_law_take (G : Wd P w K mg base cl T ad L) {f : Addr} (cdv : Value) (A : Around) (outer : List Env) (s : Shared) (H : Hp) (E : XK) (hr : Room L (A.deeper (envOfC (Str.ofString "_law_take") (defScope st_law_take) s.heap.objs.size f cdv))) :
    QB (cxOf (L2.CX P w) P w K mg base N_law_take (Str.ofString "_law_take") (defScope st_law_take) f cdv A outer s H E) cl (fun c d _ H => E c d H) (defBody st_law_take) (t_law_take T L) := by
  have S := sc_law_take
  have tk : Takes (cxOf (L2.CX P w) P w K mg base N_law_take (Str.ofString "_law_take") (defScope st_law_take) f cdv A outer s H E) (fun c d _ H => E c d H) := takes_of rfl rfl rfl rfl
  have pw : PassesOwn (model P w) (A.deeper (envOfC (Str.ofString "_law_take") (defScope st_law_take) s.heap.objs.size f cdv)) (envOfC (Str.ofString "_law_take") (defScope st_law_take) s.heap.objs.size f cdv) (cxOf (L2.CX P w) P w K mg base N_law_take (Str.ofString "_law_take") (defScope st_law_take) f cdv A outer s H E).xe := passes_of rfl
  exact (qb_cons (qs_if (t_eq hr.units (q_ix hr.units (q_var (i := 0) rfl (Or.inl rfl) rfl rfl) q_int (fun _ _ => rfl)) q_int) (qb_cons (qs_asg (q_mod (q_ix hr.units (q_var (i := 0) rfl (Or.inl rfl) rfl rfl) q_int (fun _ _ => rfl)) (q_var (i := 1) rfl (Or.inl rfl) rfl rfl)) (qg_name (i := 2) S.nd rfl (Or.inl rfl) (Or.inl rfl)) rfl rfl rfl)
    (qb_cons (qs_sub hr.units (q_div (q_ix hr.units (q_var (i := 0) rfl (Or.inl rfl) rfl rfl) q_int (fun _ _ => rfl)) (q_var (i := 1) rfl (Or.inl rfl) rfl rfl)) (q_var (i := 0) rfl (Or.inl rfl) rfl rfl) q_int (fun _ => rfl) rfl rfl rfl)
    (qb_one (qs_ret (q_var (i := 2) rfl (Or.inl rfl) rfl rfl))))) qb_nil)
    (qb_cons (qs_sub hr.units (q_mod (q_mul (q_add (q_ix hr.units (q_var (i := 0) rfl (Or.inl rfl) rfl rfl) q_int (fun _ _ => rfl)) q_int) (q_add (q_ix hr.units (q_var (i := 0) rfl (Or.inl rfl) rfl rfl) q_int (fun _ _ => rfl)) q_int)) q_int) (q_var (i := 0) rfl (Or.inl rfl) rfl rfl) q_int (fun _ => rfl) rfl rfl rfl)
    (qb_one (qs_ret (q_mod (q_add (q_mul (q_ix hr.units (q_var (i := 0) rfl (Or.inl rfl) rfl rfl) q_int (fun _ _ => rfl)) q_int) q_int) (q_var (i := 1) rfl (Or.inl rfl) rfl rfl))))))
abbrev st_law_number : Stmt := top 16
theorem sc_law_number : FnScope N_law_number [(Str.ofString "row")] (defScope st_law_number) := ⟨rfl, rfl, rfl, by decide +kernel, rfl, by decide +kernel, by decide +kernel⟩
theorem d_law_number (G : Wd P w K mg base cl T ad L) {f : Addr} (cdv : Value) (A : Around) (outer : List Env) (s : Shared) (H : Hp) (E : XK) (hr : Room L (A.deeper (envOfC (Str.ofString "_law_number") (defScope st_law_number) s.heap.objs.size f cdv))) :
    QB (cxOf (L2.CX P w) P w K mg base N_law_number (Str.ofString "_law_number") (defScope st_law_number) f cdv A outer s H E) cl (fun c d _ H => E c d H) (defBody st_law_number) (t_law_number T L) := by
  have S := sc_law_number
  have tk : Takes (cxOf (L2.CX P w) P w K mg base N_law_number (Str.ofString "_law_number") (defScope st_law_number) f cdv A outer s H E) (fun c d _ H => E c d H) := takes_of rfl rfl rfl rfl
  have pw : PassesOwn (model P w) (A.deeper (envOfC (Str.ofString "_law_number") (defScope st_law_number) s.heap.objs.size f cdv)) (envOfC (Str.ofString "_law_number") (defScope st_law_number) s.heap.objs.size f cdv) (cxOf (L2.CX P w) P w K mg base N_law_number (Str.ofString "_law_number") (defScope st_law_number) f cdv A outer s H E).xe := passes_of rfl
  exact (qb_cons (qs_asg (q_call tk ⟨G.f__law_take, hr⟩ rfl rfl (qa_cons (q_var (i := 0) rfl (Or.inl rfl) rfl rfl) (qa_cons q_int qa_nil rfl) rfl) rfl rfl) (qg_name (i := 1) S.nd rfl (Or.inl rfl) (Or.inl rfl)) rfl rfl rfl)
    (qb_cons (qs_if (t_eq hr.units (q_var (i := 1) rfl (Or.inl rfl) rfl rfl) q_int) (qb_one (qs_ret (q_sub (q_call tk ⟨G.f__law_take, hr⟩ rfl rfl (qa_cons (q_var (i := 0) rfl (Or.inl rfl) rfl rfl) (qa_cons q_int qa_nil rfl) rfl) rfl rfl) q_int))) qb_nil)
    (qb_cons (qs_if (t_eq hr.units (q_var (i := 1) rfl (Or.inl rfl) rfl rfl) q_int) (qb_one (qs_ret (q_mul (q_ix hr.units (q_lst (qa_cons q_int (qa_cons (q_neg q_int) qa_nil rfl) rfl)) (q_call tk ⟨G.f__law_take, hr⟩ rfl rfl (qa_cons (q_var (i := 0) rfl (Or.inl rfl) rfl rfl) (qa_cons q_int qa_nil rfl) rfl) rfl rfl) (fun _ _ => rfl)) (q_sub (q_pow q_int q_int) (q_call tk ⟨G.f__law_take, hr⟩ rfl rfl (qa_cons (q_var (i := 0) rfl (Or.inl rfl) rfl rfl) (qa_cons q_int qa_nil rfl) rfl) rfl rfl))))) qb_nil)
    (qb_cons (qs_if (t_eq hr.units (q_var (i := 1) rfl (Or.inl rfl) rfl rfl) q_int) (qb_cons (qs_asg (q_mul (q_ix hr.units (q_lst (qa_cons q_int (qa_cons (q_neg q_int) qa_nil rfl) rfl)) (q_call tk ⟨G.f__law_take, hr⟩ rfl rfl (qa_cons (q_var (i := 0) rfl (Or.inl rfl) rfl rfl) (qa_cons q_int qa_nil rfl) rfl) rfl rfl) (fun _ _ => rfl)) (q_call tk ⟨G.f__law_take, hr⟩ rfl rfl (qa_cons (q_var (i := 0) rfl (Or.inl rfl) rfl rfl) (qa_cons (q_pow q_int q_int) qa_nil rfl) rfl) rfl rfl)) (qg_name (i := 2) S.nd rfl (Or.inl rfl) (Or.inl rfl)) rfl rfl rfl)
    (qb_cons (qs_for pw rfl (qi_rng1 rfl G.b_range (qa_cons (q_call tk ⟨G.f__law_take, hr⟩ rfl rfl (qa_cons (q_var (i := 0) rfl (Or.inl rfl) rfl rfl) (qa_cons q_int qa_nil rfl) rfl) rfl rfl) qa_nil rfl) rfl) (qg_name (i := 3) S.nd rfl (Or.inl rfl) (Or.inl rfl)) (qb_one (qs_asg (q_mul (q_var (i := 2) rfl (Or.inl rfl) rfl rfl) q_int) (qg_name (i := 2) S.nd rfl (Or.inl rfl) (Or.inl rfl)) rfl rfl rfl)) (fun _ => rfl))
    (qb_one (qs_ret (q_var (i := 2) rfl (Or.inl rfl) rfl rfl))))) qb_nil)
    (qb_one (qs_ret (q_min2 rfl rfl G.b_min (qa_cons (q_pow q_int q_int) (qa_cons (q_sub (q_add (q_mul (q_call tk ⟨G.f__law_take, hr⟩ rfl rfl (qa_cons (q_var (i := 0) rfl (Or.inl rfl) rfl rfl) (qa_cons (q_add (q_mul q_int (q_pow q_int q_int)) q_int) qa_nil rfl) rfl) rfl rfl) (q_pow q_int q_int)) (q_call tk ⟨G.f__law_take, hr⟩ rfl rfl (qa_cons (q_var (i := 0) rfl (Or.inl rfl) rfl rfl) (qa_cons (q_pow q_int q_int) qa_nil rfl) rfl) rfl rfl)) (q_pow q_int q_int)) qa_nil rfl) rfl) rfl rfl)))))))
abbrev st_law_text : Stmt := top 17
theorem sc_law_text : FnScope N_law_text [(Str.ofString "row")] (defScope st_law_text) := ⟨rfl, rfl, rfl, by decide +kernel, rfl, by decide +kernel, by decide +kernel⟩
theorem d_law_text (G : Wd P w K mg base cl T ad L) {f : Addr} (cdv : Value) (A : Around) (outer : List Env) (s : Shared) (H : Hp) (E : XK) (hr : Room L (A.deeper (envOfC (Str.ofString "_law_text") (defScope st_law_text) s.heap.objs.size f cdv))) :
    QB (cxOf (L2.CX P w) P w K mg base N_law_text (Str.ofString "_law_text") (defScope st_law_text) f cdv A outer s H E) cl (fun c d _ H => E c d H) (defBody st_law_text) (t_law_text T L) := by
  have S := sc_law_text
  have tk : Takes (cxOf (L2.CX P w) P w K mg base N_law_text (Str.ofString "_law_text") (defScope st_law_text) f cdv A outer s H E) (fun c d _ H => E c d H) := takes_of rfl rfl rfl rfl
  have pw : PassesOwn (model P w) (A.deeper (envOfC (Str.ofString "_law_text") (defScope st_law_text) s.heap.objs.size f cdv)) (envOfC (Str.ofString "_law_text") (defScope st_law_text) s.heap.objs.size f cdv) (cxOf (L2.CX P w) P w K mg base N_law_text (Str.ofString "_law_text") (defScope st_law_text) f cdv A outer s H E).xe := passes_of rfl
  exact (qb_cons (qs_asg q_str (qg_name (i := 1) S.nd rfl (Or.inl rfl) (Or.inl rfl)) rfl rfl rfl)
    (qb_cons (qs_asg (q_add (q_var (i := 1) rfl (Or.inl rfl) rfl rfl) q_str) (qg_name (i := 1) S.nd rfl (Or.inl rfl) (Or.inl rfl)) rfl rfl rfl)
    (qb_cons (qs_asg q_str (qg_name (i := 2) S.nd rfl (Or.inl rfl) (Or.inl rfl)) rfl rfl rfl)
    (qb_cons (qs_for pw rfl (qi_rng1 rfl G.b_range (qa_cons (q_call tk ⟨G.f__law_take, hr⟩ rfl rfl (qa_cons (q_var (i := 0) rfl (Or.inl rfl) rfl rfl) (qa_cons (q_ix hr.units (q_lst (qa_cons q_int (qa_cons q_int (qa_cons q_int (qa_cons q_int qa_nil rfl) rfl) rfl) rfl)) (q_call tk ⟨G.f__law_take, hr⟩ rfl rfl (qa_cons (q_var (i := 0) rfl (Or.inl rfl) rfl rfl) (qa_cons q_int qa_nil rfl) rfl) rfl rfl) (fun _ _ => rfl)) qa_nil rfl) rfl) rfl rfl) qa_nil rfl) rfl) (qg_name (i := 3) S.nd rfl (Or.inl rfl) (Or.inl rfl)) (qb_one (qs_asg (q_add (q_var (i := 2) rfl (Or.inl rfl) rfl rfl) (q_ix hr.units (q_var (i := 1) rfl (Or.inl rfl) rfl rfl) (q_call tk ⟨G.f__law_take, hr⟩ rfl rfl (qa_cons (q_var (i := 0) rfl (Or.inl rfl) rfl rfl) (qa_cons q_int qa_nil rfl) rfl) rfl rfl) (fun _ _ => rfl))) (qg_name (i := 2) S.nd rfl (Or.inl rfl) (Or.inl rfl)) rfl rfl rfl)) (fun _ => rfl))
    (qb_one (qs_ret (q_var (i := 2) rfl (Or.inl rfl) rfl rfl)))))))
abbrev st_law_thing : Stmt := top 18
theorem sc_law_thing : FnScope N_law_thing [(Str.ofString "row"), (Str.ofString "deep"), (Str.ofString "left")] (defScope st_law_thing) := ⟨rfl, rfl, rfl, by decide +kernel, rfl, by decide +kernel, by decide +kernel⟩
theorem d_law_thing (G : Wd P w K mg base cl T ad L) {f : Addr} (cdv : Value) (A : Around) (outer : List Env) (s : Shared) (H : Hp) (E : XK) (hr : Room L (A.deeper (envOfC (Str.ofString "_law_thing") (defScope st_law_thing) s.heap.objs.size f cdv))) :
    QB (cxOf (L2.CX P w) P w K mg base N_law_thing (Str.ofString "_law_thing") (defScope st_law_thing) f cdv A outer s H E) cl (fun c d _ H => E c d H) (defBody st_law_thing) (t_law_thing T L) := by
  have S := sc_law_thing
  have tk : Takes (cxOf (L2.CX P w) P w K mg base N_law_thing (Str.ofString "_law_thing") (defScope st_law_thing) f cdv A outer s H E) (fun c d _ H => E c d H) := takes_of rfl rfl rfl rfl
  have pw : PassesOwn (model P w) (A.deeper (envOfC (Str.ofString "_law_thing") (defScope st_law_thing) s.heap.objs.size f cdv)) (envOfC (Str.ofString "_law_thing") (defScope st_law_thing) s.heap.objs.size f cdv) (cxOf (L2.CX P w) P w K mg base N_law_thing (Str.ofString "_law_thing") (defScope st_law_thing) f cdv A outer s H E).xe := passes_of rfl
  exact (qb_cons (qs_sub hr.units (q_sub (q_ix hr.units (q_var (i := 2) rfl (Or.inl rfl) rfl rfl) q_int (fun _ _ => rfl)) q_int) (q_var (i := 2) rfl (Or.inl rfl) rfl rfl) q_int (fun _ => rfl) rfl rfl rfl)
    (qb_cons (qs_asg (q_call tk ⟨G.f__law_take, hr⟩ rfl rfl (qa_cons (q_var (i := 0) rfl (Or.inl rfl) rfl rfl) (qa_cons q_int qa_nil rfl) rfl) rfl rfl) (qg_name (i := 3) S.nd rfl (Or.inl rfl) (Or.inl rfl)) rfl rfl rfl)
    (qb_cons (qs_if (t_eq hr.units (q_var (i := 3) rfl (Or.inl rfl) rfl rfl) q_int) (qb_one (qs_ret q_non)) qb_nil)
    (qb_cons (qs_if (t_w (w_or (t_lt hr.units (q_var (i := 3) rfl (Or.inl rfl) rfl rfl) q_int) (w_or1 (t_w (w_and (t_gt  (q_var (i := 3) rfl (Or.inl rfl) rfl rfl) q_int) (w_and1 (t_w (w_or (t_eq hr.units (q_var (i := 1) rfl (Or.inl rfl) rfl rfl) q_int) (w_or1 (t_lt hr.units (q_ix hr.units (q_var (i := 2) rfl (Or.inl rfl) rfl rfl) q_int (fun _ _ => rfl)) q_int)))))))))) (qb_one (qs_ret (q_call tk ⟨G.f__law_number, hr⟩ rfl rfl (qa_cons (q_var (i := 0) rfl (Or.inl rfl) rfl rfl) qa_nil rfl) rfl rfl))) qb_nil)
    (qb_cons (qs_if (t_lt hr.units (q_var (i := 3) rfl (Or.inl rfl) rfl rfl) q_int) (qb_one (qs_ret (q_call tk ⟨G.f__law_text, hr⟩ rfl rfl (qa_cons (q_var (i := 0) rfl (Or.inl rfl) rfl rfl) qa_nil rfl) rfl rfl))) qb_nil)
    (qb_cons (qs_asg (q_lst qa_nil) (qg_name (i := 4) S.nd rfl (Or.inl rfl) (Or.inl rfl)) rfl rfl rfl)
    (qb_cons (qs_for pw rfl (qi_rng1 rfl G.b_range (qa_cons (q_call tk ⟨G.f__law_take, hr⟩ rfl rfl (qa_cons (q_var (i := 0) rfl (Or.inl rfl) rfl rfl) (qa_cons (q_ix hr.units (q_lst (qa_cons q_int (qa_cons q_int (qa_cons q_int (qa_cons q_int qa_nil rfl) rfl) rfl) rfl)) (q_call tk ⟨G.f__law_take, hr⟩ rfl rfl (qa_cons (q_var (i := 0) rfl (Or.inl rfl) rfl rfl) (qa_cons q_int qa_nil rfl) rfl) rfl rfl) (fun _ _ => rfl)) qa_nil rfl) rfl) rfl rfl) qa_nil rfl) rfl) (qg_name (i := 5) S.nd rfl (Or.inl rfl) (Or.inl rfl)) (qb_one (qs_if (t_gt  (q_ix hr.units (q_var (i := 2) rfl (Or.inl rfl) rfl rfl) q_int (fun _ _ => rfl)) q_int) (qb_one (qs_exp (q_mt (T := "list") (id := "list.append") PySem.F.plainAttrs_list PySem.F.slot_list_append PySem.F.type_list_append mt_append up_append mono_append (q_var (i := 4) rfl (Or.inl rfl) rfl rfl) (qa_cons (q_call tk ⟨G.f__law_thing, hr⟩ rfl rfl (qa_cons (q_var (i := 0) rfl (Or.inl rfl) rfl rfl) (qa_cons (q_sub (q_var (i := 1) rfl (Or.inl rfl) rfl rfl) q_int) (qa_cons (q_var (i := 2) rfl (Or.inl rfl) rfl rfl) qa_nil rfl) rfl) rfl) rfl rfl) qa_nil rfl) rfl rfl rfl rfl rfl) rfl)) qb_nil)) (fun _ => rfl))
    (qb_one (qs_ret (q_tuple rfl G.b_tuple (qa_cons (q_var (i := 4) rfl (Or.inl rfl) rfl rfl) qa_nil rfl) rfl rfl))))))))))
abbrev st_law_bad : Stmt := top 19
theorem sc_law_bad : FnScope N_law_bad [(Str.ofString "row")] (defScope st_law_bad) := ⟨rfl, rfl, rfl, by decide +kernel, rfl, by decide +kernel, by decide +kernel⟩
theorem d_law_bad (G : Wd P w K mg base cl T ad L) {f : Addr} (cdv : Value) (A : Around) (outer : List Env) (s : Shared) (H : Hp) (E : XK) (hr : Room L (A.deeper (envOfC (Str.ofString "_law_bad") (defScope st_law_bad) s.heap.objs.size f cdv))) :
    QB (cxOf (L2.CX P w) P w K mg base N_law_bad (Str.ofString "_law_bad") (defScope st_law_bad) f cdv A outer s H E) cl (fun c d _ H => E c d H) (defBody st_law_bad) (t_law_bad T L) := by
  have S := sc_law_bad
  have tk : Takes (cxOf (L2.CX P w) P w K mg base N_law_bad (Str.ofString "_law_bad") (defScope st_law_bad) f cdv A outer s H E) (fun c d _ H => E c d H) := takes_of rfl rfl rfl rfl
  have pw : PassesOwn (model P w) (A.deeper (envOfC (Str.ofString "_law_bad") (defScope st_law_bad) s.heap.objs.size f cdv)) (envOfC (Str.ofString "_law_bad") (defScope st_law_bad) s.heap.objs.size f cdv) (cxOf (L2.CX P w) P w K mg base N_law_bad (Str.ofString "_law_bad") (defScope st_law_bad) f cdv A outer s H E).xe := passes_of rfl
  exact (qb_cons (qs_asg (q_ix hr.units (q_lst (qa_cons q_str (qa_cons q_str qa_nil rfl) rfl)) (q_call tk ⟨G.f__law_take, hr⟩ rfl rfl (qa_cons (q_var (i := 0) rfl (Or.inl rfl) rfl rfl) (qa_cons q_int qa_nil rfl) rfl) rfl rfl) (fun _ _ => rfl)) (qg_name (i := 1) S.nd rfl (Or.inl rfl) (Or.inl rfl)) rfl rfl rfl)
    (qb_cons (qs_asg (q_sl (q_call tk ⟨G.f__law_text, hr⟩ rfl rfl (qa_cons (q_var (i := 0) rfl (Or.inl rfl) rfl rfl) qa_nil rfl) rfl rfl) qo_none (qo_some q_int)) (qg_name (i := 2) S.nd rfl (Or.inl rfl) (Or.inl rfl)) rfl rfl rfl)
    (qb_cons (qs_asg (q_call tk ⟨G.f__law_take, hr⟩ rfl rfl (qa_cons (q_var (i := 0) rfl (Or.inl rfl) rfl rfl) (qa_cons (q_add (q_len rfl G.b_len (qa_cons (q_var (i := 2) rfl (Or.inl rfl) rfl rfl) qa_nil rfl) rfl rfl) q_int) qa_nil rfl) rfl) rfl rfl) (qg_name (i := 3) S.nd rfl (Or.inl rfl) (Or.inl rfl)) rfl rfl rfl)
    (qb_cons (qs_asg (q_add (q_add (q_pow q_int q_int) q_int) (q_ix hr.units (q_lst (qa_cons q_int (qa_cons (q_mul (q_call tk ⟨G.f__law_take, hr⟩ rfl rfl (qa_cons (q_var (i := 0) rfl (Or.inl rfl) rfl rfl) (qa_cons (q_pow q_int q_int) qa_nil rfl) rfl) rfl rfl) (q_call tk ⟨G.f__law_take, hr⟩ rfl rfl (qa_cons (q_var (i := 0) rfl (Or.inl rfl) rfl rfl) (qa_cons (q_pow q_int q_int) qa_nil rfl) rfl) rfl rfl)) (qa_cons (q_pow q_int q_int) qa_nil rfl) rfl) rfl)) (q_call tk ⟨G.f__law_take, hr⟩ rfl rfl (qa_cons (q_var (i := 0) rfl (Or.inl rfl) rfl rfl) (qa_cons q_int qa_nil rfl) rfl) rfl rfl) (fun _ _ => rfl))) (qg_name (i := 4) S.nd rfl (Or.inl rfl) (Or.inl rfl)) rfl rfl rfl)
    (qb_cons (qs_asg (q_lst (qa_cons q_bl (qa_cons q_bl (qa_cons (q_var (i := 4) rfl (Or.inl rfl) rfl rfl) (qa_cons (q_neg (q_var (i := 4) rfl (Or.inl rfl) rfl rfl)) (qa_cons (q_add (q_add (q_sl (q_var (i := 2) rfl (Or.inl rfl) rfl rfl) qo_none (qo_some (q_var (i := 3) rfl (Or.inl rfl) rfl rfl))) (q_var (i := 1) rfl (Or.inl rfl) rfl rfl)) (q_sl (q_var (i := 2) rfl (Or.inl rfl) rfl rfl) (qo_some (q_var (i := 3) rfl (Or.inl rfl) rfl rfl)) qo_none)) (qa_cons (q_lst qa_nil) (qa_cons (q_lst (qa_cons q_int qa_nil rfl)) (qa_cons q_dic (qa_cons (q_lst (qa_cons q_str (qa_cons (q_tup qa_nil) qa_nil rfl) rfl)) (qa_cons (q_newE G.ex rfl (by decide) G.x_NoThing (by decide) rfl rfl rfl) qa_nil rfl) rfl) rfl) rfl) rfl) rfl) rfl) rfl) rfl) rfl)) (qg_name (i := 5) S.nd rfl (Or.inl rfl) (Or.inl rfl)) rfl rfl rfl)
    (qb_cons (qs_exp (q_mt (T := "list") (id := "list.append") PySem.F.plainAttrs_list PySem.F.slot_list_append PySem.F.type_list_append mt_append up_append mono_append (q_var (i := 5) rfl (Or.inl rfl) rfl rfl) (qa_cons (q_add (q_var (i := 2) rfl (Or.inl rfl) rfl rfl) (q_mul q_str (q_add (q_sub q_int (q_len rfl G.b_len (qa_cons (q_var (i := 2) rfl (Or.inl rfl) rfl rfl) qa_nil rfl) rfl rfl)) (q_ix hr.units (q_lst (qa_cons q_int (qa_cons q_int (qa_cons q_int qa_nil rfl) rfl) rfl)) (q_call tk ⟨G.f__law_take, hr⟩ rfl rfl (qa_cons (q_var (i := 0) rfl (Or.inl rfl) rfl rfl) (qa_cons q_int qa_nil rfl) rfl) rfl rfl) (fun _ _ => rfl))))) qa_nil rfl) rfl rfl rfl rfl rfl) rfl)
    (qb_cons (qs_exp (q_mt (T := "list") (id := "list.append") PySem.F.plainAttrs_list PySem.F.slot_list_append PySem.F.type_list_append mt_append up_append mono_append (q_var (i := 5) rfl (Or.inl rfl) rfl rfl) (qa_cons (q_mul (q_tup (qa_cons q_non qa_nil rfl)) (q_add q_int (q_call tk ⟨G.f__law_take, hr⟩ rfl rfl (qa_cons (q_var (i := 0) rfl (Or.inl rfl) rfl rfl) (qa_cons q_int qa_nil rfl) rfl) rfl rfl))) qa_nil rfl) rfl rfl rfl rfl rfl) rfl)
    (qb_one (qs_ret (q_ix hr.units (q_var (i := 5) rfl (Or.inl rfl) rfl rfl) (q_call tk ⟨G.f__law_take, hr⟩ rfl rfl (qa_cons (q_var (i := 0) rfl (Or.inl rfl) rfl rfl) (qa_cons (q_len rfl G.b_len (qa_cons (q_var (i := 5) rfl (Or.inl rfl) rfl rfl) qa_nil rfl) rfl rfl) qa_nil rfl) rfl) rfl rfl) (fun _ _ => rfl)))))))))))
abbrev st_law_wrapped : Stmt := top 20
theorem sc_law_wrapped : FnScope N_law_wrapped [(Str.ofString "row"), (Str.ofString "thing"), (Str.ofString "many")] (defScope st_law_wrapped) := ⟨rfl, rfl, rfl, by decide +kernel, rfl, by decide +kernel, by decide +kernel⟩
theorem d_law_wrapped (G : Wd P w K mg base cl T ad L) {f : Addr} (cdv : Value) (A : Around) (outer : List Env) (s : Shared) (H : Hp) (E : XK) (hr : Room L (A.deeper (envOfC (Str.ofString "_law_wrapped") (defScope st_law_wrapped) s.heap.objs.size f cdv))) :
    QB (cxOf (L2.CX P w) P w K mg base N_law_wrapped (Str.ofString "_law_wrapped") (defScope st_law_wrapped) f cdv A outer s H E) cl (fun c d _ H => E c d H) (defBody st_law_wrapped) (t_law_wrapped T L) := by
  have S := sc_law_wrapped
  have tk : Takes (cxOf (L2.CX P w) P w K mg base N_law_wrapped (Str.ofString "_law_wrapped") (defScope st_law_wrapped) f cdv A outer s H E) (fun c d _ H => E c d H) := takes_of rfl rfl rfl rfl
  have pw : PassesOwn (model P w) (A.deeper (envOfC (Str.ofString "_law_wrapped") (defScope st_law_wrapped) s.heap.objs.size f cdv)) (envOfC (Str.ofString "_law_wrapped") (defScope st_law_wrapped) s.heap.objs.size f cdv) (cxOf (L2.CX P w) P w K mg base N_law_wrapped (Str.ofString "_law_wrapped") (defScope st_law_wrapped) f cdv A outer s H E).xe := passes_of rfl
  exact (qb_cons (qs_for pw rfl (qi_rng1 rfl G.b_range (qa_cons (q_var (i := 2) rfl (Or.inl rfl) rfl rfl) qa_nil rfl) rfl) (qg_name (i := 3) S.nd rfl (Or.inl rfl) (Or.inl rfl)) (qb_cons (qs_lc (n := 4) rfl S.nd rfl rfl (sw_true rfl rfl rfl (by decide +kernel)) (qi_rng1 rfl G.b_range (qa_cons (q_call tk ⟨G.f__law_take, hr⟩ rfl rfl (qa_cons (q_var (i := 0) rfl (Or.inr (Or.inl rfl)) rfl rfl) (qa_cons q_int qa_nil rfl) rfl) rfl rfl) qa_nil rfl) rfl) (blkOk_by (own := [((Str.ofString "j"), 6)]) (N := N_law_wrapped) (sc := defScope st_law_wrapped) (by decide +kernel)) (fun _ _ _ _ _ => (pg_name (i := 6) S.nd rfl (Or.inl rfl) (Or.inr rfl))) (fun _ _ _ _ _ => qts_nil) (fun _ _ _ _ _ => (q_call takes0 ⟨G.f__law_thing, hr⟩ rfl rfl (qa_cons (q_var (i := 0) rfl (Or.inr (Or.inl rfl)) rfl rfl) (qa_cons q_int (qa_cons (q_lst (qa_cons q_int qa_nil rfl)) qa_nil rfl) rfl) rfl) rfl rfl)) (fun _ => rfl))
    (qb_cons (qs_asg (q_call tk ⟨G.f__law_take, hr⟩ rfl rfl (qa_cons (q_var (i := 0) rfl (Or.inr (Or.inl rfl)) rfl rfl) (qa_cons (q_add (q_len rfl G.b_len (qa_cons (q_var (i := 4) rfl (Or.inl rfl) rfl rfl) qa_nil rfl) rfl rfl) q_int) qa_nil rfl) rfl) rfl rfl) (qg_name (i := 5) S.nd rfl (Or.inl rfl) (Or.inl rfl)) rfl rfl rfl)
    (qb_one (qs_asg (q_tuple rfl G.b_tuple (qa_cons (q_add (q_add (q_sl (q_var (i := 4) rfl (Or.inl rfl) rfl rfl) qo_none (qo_some (q_var (i := 5) rfl (Or.inl rfl) rfl rfl))) (q_lst (qa_cons (q_var (i := 1) rfl (Or.inl rfl) rfl rfl) qa_nil rfl))) (q_sl (q_var (i := 4) rfl (Or.inl rfl) rfl rfl) (qo_some (q_var (i := 5) rfl (Or.inl rfl) rfl rfl)) qo_none)) qa_nil rfl) rfl rfl) (qg_name (i := 1) S.nd rfl (Or.inl rfl) (Or.inl rfl)) rfl rfl rfl)))) (fun _ => rfl))
    (qb_one (qs_ret (q_var (i := 1) rfl (Or.inl rfl) rfl rfl))))
abbrev st_law_put_in : Stmt := top 21
theorem sc_law_put_in : FnScope N_law_put_in [(Str.ofString "row"), (Str.ofString "thing"), (Str.ofString "bad")] (defScope st_law_put_in) := ⟨rfl, rfl, rfl, by decide +kernel, rfl, by decide +kernel, by decide +kernel⟩
theorem d_law_put_in (G : Wd P w K mg base cl T ad L) {f : Addr} (cdv : Value) (A : Around) (outer : List Env) (s : Shared) (H : Hp) (E : XK) (hr : Room L (A.deeper (envOfC (Str.ofString "_law_put_in") (defScope st_law_put_in) s.heap.objs.size f cdv))) :
    QB (cxOf (L2.CX P w) P w K mg base N_law_put_in (Str.ofString "_law_put_in") (defScope st_law_put_in) f cdv A outer s H E) cl (fun c d _ H => E c d H) (defBody st_law_put_in) (t_law_put_in T L) := by
  have S := sc_law_put_in
  have tk : Takes (cxOf (L2.CX P w) P w K mg base N_law_put_in (Str.ofString "_law_put_in") (defScope st_law_put_in) f cdv A outer s H E) (fun c d _ H => E c d H) := takes_of rfl rfl rfl rfl
  have pw : PassesOwn (model P w) (A.deeper (envOfC (Str.ofString "_law_put_in") (defScope st_law_put_in) s.heap.objs.size f cdv)) (envOfC (Str.ofString "_law_put_in") (defScope st_law_put_in) s.heap.objs.size f cdv) (cxOf (L2.CX P w) P w K mg base N_law_put_in (Str.ofString "_law_put_in") (defScope st_law_put_in) f cdv A outer s H E).xe := passes_of rfl
  exact (qb_cons (qs_if (t_w (w_or (t_not (t_tru (q_isiX G.ex rfl G.b_isinstance (qa_cons (q_var (i := 1) rfl (Or.inl rfl) rfl rfl) (qa_cons (q_ty (by decide +kernel) (by decide) rfl rfl G.b_tuple) qa_nil rfl) rfl) rfl rfl) (fun _ => rfl))) (w_or1 (t_eq hr.units (q_call tk ⟨G.f__law_take, hr⟩ rfl rfl (qa_cons (q_var (i := 0) rfl (Or.inl rfl) rfl rfl) (qa_cons q_int qa_nil rfl) rfl) rfl rfl) q_int)))) (qb_one (qs_ret (q_var (i := 2) rfl (Or.inl rfl) rfl rfl))) qb_nil)
    (qb_cons (qs_asg (q_call tk ⟨G.f__law_take, hr⟩ rfl rfl (qa_cons (q_var (i := 0) rfl (Or.inl rfl) rfl rfl) (qa_cons (q_add (q_len rfl G.b_len (qa_cons (q_var (i := 1) rfl (Or.inl rfl) rfl rfl) qa_nil rfl) rfl rfl) q_int) qa_nil rfl) rfl) rfl rfl) (qg_name (i := 3) S.nd rfl (Or.inl rfl) (Or.inl rfl)) rfl rfl rfl)
    (qb_cons (qs_if (t_eq hr.units (q_var (i := 3) rfl (Or.inl rfl) rfl rfl) (q_len rfl G.b_len (qa_cons (q_var (i := 1) rfl (Or.inl rfl) rfl rfl) qa_nil rfl) rfl rfl)) (qb_one (qs_ret (q_add (q_var (i := 1) rfl (Or.inl rfl) rfl rfl) (q_tup (qa_cons (q_var (i := 2) rfl (Or.inl rfl) rfl rfl) qa_nil rfl))))) qb_nil)
    (qb_one (qs_ret (q_add (q_add (q_sl (q_var (i := 1) rfl (Or.inl rfl) rfl rfl) qo_none (qo_some (q_var (i := 3) rfl (Or.inl rfl) rfl rfl))) (q_tup (qa_cons (q_call tk ⟨G.f__law_put_in, hr⟩ rfl rfl (qa_cons (q_var (i := 0) rfl (Or.inl rfl) rfl rfl) (qa_cons (q_ix hr.units (q_var (i := 1) rfl (Or.inl rfl) rfl rfl) (q_var (i := 3) rfl (Or.inl rfl) rfl rfl) (fun _ _ => rfl)) (qa_cons (q_var (i := 2) rfl (Or.inl rfl) rfl rfl) qa_nil rfl) rfl) rfl) rfl rfl) qa_nil rfl))) (q_sl (q_var (i := 1) rfl (Or.inl rfl) rfl rfl) (qo_some (q_add (q_var (i := 3) rfl (Or.inl rfl) rfl rfl) q_int)) qo_none)))))))
abbrev st_law_spoilt_right : Stmt := top 22
theorem sc_law_spoilt_right : FnScope N_law_spoilt_right [(Str.ofString "row"), (Str.ofString "thing")] (defScope st_law_spoilt_right) := ⟨rfl, rfl, rfl, by decide +kernel, rfl, by decide +kernel, by decide +kernel⟩
theorem d_law_spoilt_right (G : Wd P w K mg base cl T ad L) {f : Addr} (cdv : Value) (A : Around) (outer : List Env) (s : Shared) (H : Hp) (E : XK) (hr : Room L (A.deeper (envOfC (Str.ofString "_law_spoilt_right") (defScope st_law_spoilt_right) s.heap.objs.size f cdv))) :
    QB (cxOf (L2.CX P w) P w K mg base N_law_spoilt_right (Str.ofString "_law_spoilt_right") (defScope st_law_spoilt_right) f cdv A outer s H E) cl (fun c d _ H => E c d H) (defBody st_law_spoilt_right) (t_law_spoilt_right T L) := by
  have S := sc_law_spoilt_right
  have tk : Takes (cxOf (L2.CX P w) P w K mg base N_law_spoilt_right (Str.ofString "_law_spoilt_right") (defScope st_law_spoilt_right) f cdv A outer s H E) (fun c d _ H => E c d H) := takes_of rfl rfl rfl rfl
  have pw : PassesOwn (model P w) (A.deeper (envOfC (Str.ofString "_law_spoilt_right") (defScope st_law_spoilt_right) s.heap.objs.size f cdv)) (envOfC (Str.ofString "_law_spoilt_right") (defScope st_law_spoilt_right) s.heap.objs.size f cdv) (cxOf (L2.CX P w) P w K mg base N_law_spoilt_right (Str.ofString "_law_spoilt_right") (defScope st_law_spoilt_right) f cdv A outer s H E).xe := passes_of rfl
  exact (qb_cons (qs_asg (q_call tk ⟨G.f__law_bad, hr⟩ rfl rfl (qa_cons (q_var (i := 0) rfl (Or.inl rfl) rfl rfl) qa_nil rfl) rfl rfl) (qg_name (i := 2) S.nd rfl (Or.inl rfl) (Or.inl rfl)) rfl rfl rfl)
    (qb_cons (qs_asg (q_var (i := 2) rfl (Or.inl rfl) rfl rfl) (qg_name (i := 3) S.nd rfl (Or.inl rfl) (Or.inl rfl)) rfl rfl rfl)
    (qb_consJ (qs_if (t_tru (q_isiX G.ex rfl G.b_isinstance (qa_cons (q_var (i := 2) rfl (Or.inl rfl) rfl rfl) (qa_cons (q_ty (by decide +kernel) (by decide) rfl rfl G.b_list) qa_nil rfl) rfl) rfl rfl) (fun _ => rfl)) (qb_one (qs_asg (q_list rfl G.b_list (qa_cons (q_var (i := 2) rfl (Or.inl rfl) rfl rfl) qa_nil rfl) rfl rfl) (qg_name (i := 3) S.nd rfl (Or.inl rfl) (Or.inl rfl)) rfl rfl rfl)) qb_nil)
    (qb_cons (qs_asg (q_call tk ⟨G.f__law_put_in, hr⟩ rfl rfl (qa_cons (q_var (i := 0) rfl (Or.inl rfl) rfl rfl) (qa_cons (q_var (i := 1) rfl (Or.inl rfl) rfl rfl) (qa_cons (q_var (i := 2) rfl (Or.inl rfl) rfl rfl) qa_nil rfl) rfl) rfl) rfl rfl) (qg_name (i := 4) S.nd rfl (Or.inl rfl) (Or.inl rfl)) rfl rfl rfl)
    (qb_cons (qs_if (t_w (w_or (t_not (t_tru (q_call tk ⟨G.f__law_right, hr⟩ rfl rfl (qa_cons (q_call tk ⟨G.f__law_wrapped, hr⟩ rfl rfl (qa_cons (q_var (i := 0) rfl (Or.inl rfl) rfl rfl) (qa_cons (q_var (i := 4) rfl (Or.inl rfl) rfl rfl) (qa_cons (q_call tk ⟨G.f__law_take, hr⟩ rfl rfl (qa_cons (q_var (i := 0) rfl (Or.inl rfl) rfl rfl) (qa_cons q_int qa_nil rfl) rfl) rfl rfl) qa_nil rfl) rfl) rfl) rfl rfl) qa_nil rfl) rfl rfl) (fun _ => rfl))) (w_or1 (t_not (t_tru (q_call tk ⟨G.f__law_right, hr⟩ rfl rfl (qa_cons (q_call tk ⟨G.f__law_wrapped, hr⟩ rfl rfl (qa_cons (q_var (i := 0) rfl (Or.inl rfl) rfl rfl) (qa_cons (q_var (i := 2) rfl (Or.inl rfl) rfl rfl) (qa_cons q_int qa_nil rfl) rfl) rfl) rfl rfl) qa_nil rfl) rfl rfl) (fun _ => rfl)))))) (qb_one (qs_ret q_bl)) qb_nil)
    (qb_one (qs_ret (q_and (q_call tk ⟨G.f__law_right, hr⟩ rfl rfl (qa_cons (q_add (q_mul (q_tup (qa_cons q_non qa_nil rfl)) (q_add q_int (q_call tk ⟨G.f__law_take, hr⟩ rfl rfl (qa_cons (q_var (i := 0) rfl (Or.inl rfl) rfl rfl) (qa_cons q_int qa_nil rfl) rfl) rfl rfl))) (q_tup (qa_cons (q_var (i := 2) rfl (Or.inl rfl) rfl rfl) qa_nil rfl))) qa_nil rfl) rfl rfl) (q_one (q_eqK G.ex hr.units (q_var (i := 2) rfl (Or.inl rfl) rfl rfl) (q_var (i := 3) rfl (Or.inl rfl) rfl rfl)))))))))))
abbrev st_law_deep : Stmt := top 23
theorem sc_law_deep : FnScope N_law_deep [(Str.ofString "thing")] (defScope st_law_deep) := ⟨rfl, rfl, rfl, by decide +kernel, rfl, by decide +kernel, by decide +kernel⟩
theorem d_law_deep (G : Wd P w K mg base cl T ad L) {f : Addr} (cdv : Value) (A : Around) (outer : List Env) (s : Shared) (H : Hp) (E : XK) (hr : Room L (A.deeper (envOfC (Str.ofString "_law_deep") (defScope st_law_deep) s.heap.objs.size f cdv))) :
    QB (cxOf (L2.CX P w) P w K mg base N_law_deep (Str.ofString "_law_deep") (defScope st_law_deep) f cdv A outer s H E) cl (fun c d _ H => E c d H) (defBody st_law_deep) (t_law_deep T L) := by
  have S := sc_law_deep
  have tk : Takes (cxOf (L2.CX P w) P w K mg base N_law_deep (Str.ofString "_law_deep") (defScope st_law_deep) f cdv A outer s H E) (fun c d _ H => E c d H) := takes_of rfl rfl rfl rfl
  have pw : PassesOwn (model P w) (A.deeper (envOfC (Str.ofString "_law_deep") (defScope st_law_deep) s.heap.objs.size f cdv)) (envOfC (Str.ofString "_law_deep") (defScope st_law_deep) s.heap.objs.size f cdv) (cxOf (L2.CX P w) P w K mg base N_law_deep (Str.ofString "_law_deep") (defScope st_law_deep) f cdv A outer s H E).xe := passes_of rfl
  exact (qb_cons (qs_if (t_not (t_tru (q_isiX G.ex rfl G.b_isinstance (qa_cons (q_var (i := 0) rfl (Or.inl rfl) rfl rfl) (qa_cons (q_ty (by decide +kernel) (by decide) rfl rfl G.b_tuple) qa_nil rfl) rfl) rfl rfl) (fun _ => rfl))) (qb_one (qs_ret q_int)) qb_nil)
    (qb_one (qs_ret (q_add q_int (q_max1 rfl rfl G.b_max (qa_cons (q_add (q_lst (qa_cons q_int qa_nil rfl)) (q_lc rfl S.nd (qi_seq (q_var (i := 0) rfl (Or.inl rfl) rfl rfl)) (blkOk_by (own := [((Str.ofString "piece"), 1)]) (N := N_law_deep) (sc := defScope st_law_deep) (by decide +kernel)) (fun _ _ _ _ _ => (pg_name (i := 1) S.nd rfl (Or.inl rfl) (Or.inr rfl))) (fun _ _ _ _ _ => qts_nil) (fun _ _ _ _ _ => (q_call takes0 ⟨G.f__law_deep, hr⟩ rfl rfl (qa_cons (q_var (i := 1) rfl (Or.inl rfl) rfl rfl) qa_nil rfl) rfl rfl)) (fun _ => rfl))) qa_nil rfl) rfl rfl)))))
abbrev st_law_fine : Stmt := top 24
theorem sc_law_fine : FnScope N_law_fine [(Str.ofString "thing")] (defScope st_law_fine) := ⟨rfl, rfl, rfl, by decide +kernel, rfl, by decide +kernel, by decide +kernel⟩
theorem d_law_fine (G : Wd P w K mg base cl T ad L) {f : Addr} (cdv : Value) (A : Around) (outer : List Env) (s : Shared) (H : Hp) (E : XK) (hr : Room L (A.deeper (envOfC (Str.ofString "_law_fine") (defScope st_law_fine) s.heap.objs.size f cdv))) :
    QB (cxOf (L2.CX P w) P w K mg base N_law_fine (Str.ofString "_law_fine") (defScope st_law_fine) f cdv A outer s H E) cl (fun c d _ H => E c d H) (defBody st_law_fine) (t_law_fine T L) := by
  have S := sc_law_fine
  have tk : Takes (cxOf (L2.CX P w) P w K mg base N_law_fine (Str.ofString "_law_fine") (defScope st_law_fine) f cdv A outer s H E) (fun c d _ H => E c d H) := takes_of rfl rfl rfl rfl
  have pw : PassesOwn (model P w) (A.deeper (envOfC (Str.ofString "_law_fine") (defScope st_law_fine) s.heap.objs.size f cdv)) (envOfC (Str.ofString "_law_fine") (defScope st_law_fine) s.heap.objs.size f cdv) (cxOf (L2.CX P w) P w K mg base N_law_fine (Str.ofString "_law_fine") (defScope st_law_fine) f cdv A outer s H E).xe := passes_of rfl
  exact (qb_cons (qs_if (t_is  (q_var (i := 0) rfl (Or.inl rfl) rfl rfl) q_non) (qb_one (qs_ret q_bl)) qb_nil)
    (qb_cons (qs_if (t_tru (q_isiX G.ex rfl G.b_isinstance (qa_cons (q_var (i := 0) rfl (Or.inl rfl) rfl rfl) (qa_cons (q_ty (by decide +kernel) (by decide) rfl rfl G.b_tuple) qa_nil rfl) rfl) rfl rfl) (fun _ => rfl)) (qb_one (qs_ret (q_and (q_le  (q_len rfl G.b_len (qa_cons (q_var (i := 0) rfl (Or.inl rfl) rfl rfl) qa_nil rfl) rfl rfl) q_int) (q_one (q_eqK G.ex hr.units (q_lc rfl S.nd (qi_seq (q_var (i := 0) rfl (Or.inl rfl) rfl rfl)) (blkOk_by (own := [((Str.ofString "piece"), 1)]) (N := N_law_fine) (sc := defScope st_law_fine) (by decide +kernel)) (fun _ _ _ _ _ => (pg_name (i := 1) S.nd rfl (Or.inl rfl) (Or.inr rfl))) (fun _ _ _ _ _ => qts_one (t_not (t_tru (q_call takes0 ⟨G.f__law_fine, hr⟩ rfl rfl (qa_cons (q_var (i := 1) rfl (Or.inl rfl) rfl rfl) qa_nil rfl) rfl rfl) (fun _ => rfl)))) (fun _ _ _ _ _ => (q_var (i := 1) rfl (Or.inl rfl) rfl rfl)) (fun _ => rfl)) (q_lst qa_nil)))))) qb_nil)
    (qb_cons (qs_if (t_tru (q_isiX G.ex rfl G.b_isinstance (qa_cons (q_var (i := 0) rfl (Or.inl rfl) rfl rfl) (qa_cons (q_ty (by decide +kernel) (by decide) rfl rfl G.b_str) qa_nil rfl) rfl) rfl rfl) (fun _ => rfl)) (qb_one (qs_ret (q_and (q_lt hr.units (q_len rfl G.b_len (qa_cons (q_var (i := 0) rfl (Or.inl rfl) rfl rfl) qa_nil rfl) rfl rfl) q_int) (q_one (q_eqK G.ex hr.units (q_lc rfl S.nd (qi_seq (q_var (i := 0) rfl (Or.inl rfl) rfl rfl)) (blkOk_by (own := [((Str.ofString "sign"), 2)]) (N := N_law_fine) (sc := defScope st_law_fine) (by decide +kernel)) (fun _ _ _ _ _ => (pg_name (i := 2) S.nd rfl (Or.inl rfl) (Or.inr rfl))) (fun _ _ _ _ _ => qts_one (t_w (w_or (t_lt hr.units (q_ord rfl G.b_ord (qa_cons (q_var (i := 2) rfl (Or.inl rfl) rfl rfl) qa_nil rfl) rfl rfl) q_int) (w_or1 (t_gt  (q_ord rfl G.b_ord (qa_cons (q_var (i := 2) rfl (Or.inl rfl) rfl rfl) qa_nil rfl) rfl rfl) q_int))))) (fun _ _ _ _ _ => (q_var (i := 2) rfl (Or.inl rfl) rfl rfl)) (fun _ => rfl)) (q_lst qa_nil)))))) qb_nil)
    (qb_one (qs_ret (q_and (q_isiX G.ex rfl G.b_isinstance (qa_cons (q_var (i := 0) rfl (Or.inl rfl) rfl rfl) (qa_cons (q_ty (by decide +kernel) (by decide) rfl rfl G.b_int) qa_nil rfl) rfl) rfl rfl) (q_and (q_not (q_isiX G.ex rfl G.b_isinstance (qa_cons (q_var (i := 0) rfl (Or.inl rfl) rfl rfl) (qa_cons (q_ty (by decide +kernel) (by decide) rfl rfl G.b_bool) qa_nil rfl) rfl) rfl rfl)) (q_one (q_le  (q_abs rfl G.b_abs (qa_cons (q_var (i := 0) rfl (Or.inl rfl) rfl rfl) qa_nil rfl) rfl rfl) (q_pow q_int q_int))))))))))
abbrev st_law_right : Stmt := top 25
theorem sc_law_right : FnScope N_law_right [(Str.ofString "thing")] (defScope st_law_right) := ⟨rfl, rfl, rfl, by decide +kernel, rfl, by decide +kernel, by decide +kernel⟩
theorem d_law_right (G : Wd P w K mg base cl T ad L) {f : Addr} (cdv : Value) (A : Around) (outer : List Env) (s : Shared) (H : Hp) (E : XK) (hr : Room L (A.deeper (envOfC (Str.ofString "_law_right") (defScope st_law_right) s.heap.objs.size f cdv))) :
    QB (cxOf (L2.CX P w) P w K mg base N_law_right (Str.ofString "_law_right") (defScope st_law_right) f cdv A outer s H E) cl (fun c d _ H => E c d H) (defBody st_law_right) (t_law_right T L) := by
  have S := sc_law_right
  have tk : Takes (cxOf (L2.CX P w) P w K mg base N_law_right (Str.ofString "_law_right") (defScope st_law_right) f cdv A outer s H E) (fun c d _ H => E c d H) := takes_of rfl rfl rfl rfl
  have pw : PassesOwn (model P w) (A.deeper (envOfC (Str.ofString "_law_right") (defScope st_law_right) s.heap.objs.size f cdv)) (envOfC (Str.ofString "_law_right") (defScope st_law_right) s.heap.objs.size f cdv) (cxOf (L2.CX P w) P w K mg base N_law_right (Str.ofString "_law_right") (defScope st_law_right) f cdv A outer s H E).xe := passes_of rfl
  exact (qb_cons (qs_asg (q_call tk ⟨G.f_is_thing, hr⟩ rfl rfl (qa_cons (q_var (i := 0) rfl (Or.inl rfl) rfl rfl) qa_nil rfl) rfl rfl) (qg_name (i := 1) S.nd rfl (Or.inl rfl) (Or.inl rfl)) rfl rfl rfl)
    (qb_one (qs_ret (q_and (q_isiX G.ex rfl G.b_isinstance (qa_cons (q_var (i := 1) rfl (Or.inl rfl) rfl rfl) (qa_cons (q_ty (by decide +kernel) (by decide) rfl rfl G.b_bool) qa_nil rfl) rfl) rfl rfl) (q_one (q_eq hr.units (q_var (i := 1) rfl (Or.inl rfl) rfl rfl) (q_and (q_le  (q_call tk ⟨G.f__law_deep, hr⟩ rfl rfl (qa_cons (q_var (i := 0) rfl (Or.inl rfl) rfl rfl) qa_nil rfl) rfl rfl) q_int) (q_one (q_call tk ⟨G.f__law_fine, hr⟩ rfl rfl (qa_cons (q_var (i := 0) rfl (Or.inl rfl) rfl rfl) qa_nil rfl) rfl rfl)))))))))
abbrev st_law : Stmt := top 26
theorem sc_law : FnScope N_law [(Str.ofString "script")] (defScope st_law) := ⟨rfl, rfl, rfl, by decide +kernel, rfl, by decide +kernel, by decide +kernel⟩
theorem d_law (G : Wd P w K mg base cl T ad L) {f : Addr} (cdv : Value) (A : Around) (outer : List Env) (s : Shared) (H : Hp) (E : XK) (hr : Room L (A.deeper (envOfC (Str.ofString "law") (defScope st_law) s.heap.objs.size f cdv))) :
    QB (cxOf (L2.CX P w) P w K mg base N_law (Str.ofString "law") (defScope st_law) f cdv A outer s H E) cl (fun c d _ H => E c d H) (defBody st_law) (t_law T L) := by
  have S := sc_law
  have tk : Takes (cxOf (L2.CX P w) P w K mg base N_law (Str.ofString "law") (defScope st_law) f cdv A outer s H E) (fun c d _ H => E c d H) := takes_of rfl rfl rfl rfl
  have pw : PassesOwn (model P w) (A.deeper (envOfC (Str.ofString "law") (defScope st_law) s.heap.objs.size f cdv)) (envOfC (Str.ofString "law") (defScope st_law) s.heap.objs.size f cdv) (cxOf (L2.CX P w) P w K mg base N_law (Str.ofString "law") (defScope st_law) f cdv A outer s H E).xe := passes_of rfl
  exact (qb_cons (qs_asg (q_mod (q_call tk ⟨G.f__law_cell_at, hr⟩ rfl rfl (qa_cons (q_var (i := 0) rfl (Or.inl rfl) rfl rfl) (qa_cons q_int qa_nil rfl) rfl) rfl rfl) q_int) (qg_name (i := 1) S.nd rfl (Or.inl rfl) (Or.inl rfl)) rfl rfl rfl)
    (qb_cons (qs_for pw rfl (qi_seq (q_add (q_lst (qa_cons q_int qa_nil rfl)) (q_sl (q_var (i := 0) rfl (Or.inl rfl) rfl rfl) qo_none (qo_some q_int)))) (qg_name (i := 2) S.nd rfl (Or.inl rfl) (Or.inl rfl)) (qb_cons (qs_asg (q_call tk ⟨G.f__law_stream, hr⟩ rfl rfl (qa_cons (q_div (q_var (i := 2) rfl (Or.inl rfl) rfl rfl) q_int) (qa_cons (q_var (i := 1) rfl (Or.inl rfl) rfl rfl) qa_nil rfl) rfl) rfl rfl) (qg_name (i := 3) S.nd rfl (Or.inl rfl) (Or.inl rfl)) rfl rfl rfl)
    (qb_cons (qs_asg (q_call tk ⟨G.f__law_thing, hr⟩ rfl rfl (qa_cons (q_var (i := 3) rfl (Or.inl rfl) rfl rfl) (qa_cons q_int (qa_cons (q_lst (qa_cons q_int qa_nil rfl)) qa_nil rfl) rfl) rfl) rfl rfl) (qg_name (i := 4) S.nd rfl (Or.inl rfl) (Or.inl rfl)) rfl rfl rfl)
    (qb_cons (qs_if (t_isnot  (q_call tk ⟨G.f_is_thing, hr⟩ rfl rfl (qa_cons (q_var (i := 4) rfl (Or.inl rfl) rfl rfl) qa_nil rfl) rfl rfl) q_bl) (qb_one (qs_ret q_bl)) qb_nil)
    (qb_cons (qs_if (t_not (t_tru (q_call tk ⟨G.f__law_right, hr⟩ rfl rfl (qa_cons (q_call tk ⟨G.f__law_wrapped, hr⟩ rfl rfl (qa_cons (q_var (i := 3) rfl (Or.inl rfl) rfl rfl) (qa_cons (q_var (i := 4) rfl (Or.inl rfl) rfl rfl) (qa_cons (q_add q_int (q_call tk ⟨G.f__law_take, hr⟩ rfl rfl (qa_cons (q_var (i := 3) rfl (Or.inl rfl) rfl rfl) (qa_cons q_int qa_nil rfl) rfl) rfl rfl)) qa_nil rfl) rfl) rfl) rfl rfl) qa_nil rfl) rfl rfl) (fun _ => rfl))) (qb_one (qs_ret q_bl)) qb_nil)
    (qb_cons (qs_if (t_not (t_tru (q_call tk ⟨G.f__law_spoilt_right, hr⟩ rfl rfl (qa_cons (q_var (i := 3) rfl (Or.inl rfl) rfl rfl) (qa_cons (q_var (i := 4) rfl (Or.inl rfl) rfl rfl) qa_nil rfl) rfl) rfl rfl) (fun _ => rfl))) (qb_one (qs_ret q_bl)) qb_nil)
    (qb_one (qs_if (t_not (t_tru (q_call tk ⟨G.f__law_right, hr⟩ rfl rfl (qa_cons (q_add (q_mul (q_tup (qa_cons q_non qa_nil rfl)) (q_add q_int (q_call tk ⟨G.f__law_take, hr⟩ rfl rfl (qa_cons (q_var (i := 3) rfl (Or.inl rfl) rfl rfl) (qa_cons q_int qa_nil rfl) rfl) rfl rfl))) (q_tup (qa_cons (q_var (i := 4) rfl (Or.inl rfl) rfl rfl) qa_nil rfl))) qa_nil rfl) rfl rfl) (fun _ => rfl))) (qb_one (qs_ret q_bl)) qb_nil))))))) (fun _ => rfl))
    (qb_one (qs_ret (q_and (q_is  (q_call tk ⟨G.f_is_thing, hr⟩ rfl rfl (qa_cons (q_tup qa_nil) qa_nil rfl) rfl rfl) q_bl) (q_and (q_is  (q_call tk ⟨G.f_is_thing, hr⟩ rfl rfl (qa_cons q_str qa_nil rfl) rfl rfl) q_bl) (q_one (q_is  (q_call tk ⟨G.f_is_thing, hr⟩ rfl rfl (qa_cons (q_lst qa_nil) qa_nil rfl) rfl rfl) q_bl))))))))
end
/-! the law, from its parts -/
theorem allc {α : Type} {P : α → Prop} {a : α} {l : List α} (h : P a) (t : ∀ x ∈ l, P x) : ∀ x ∈ a :: l, P x := fun x hx => (List.mem_cons.mp hx).elim (fun e => e ▸ h) (t x)
theorem alln {α : Type} {P : α → Prop} : ∀ x ∈ ([] : List α), P x := fun _ h => nomatch h
noncomputable def tab : Nat → FSpec := fun i => match i with
  | 20 => sp_isnum
  | 21 => sp_istext
  | 22 => sp_within
  | 29 => sp_isthing
  | 9 => sp_cell
  | 10 => sp_stream
  | 3 => sp_take
  | 4 => sp_number
  | 5 => sp_text
  | 6 => sp_thing
  | 24 => sp_bad
  | 25 => sp_wrapped
  | 23 => sp_putin
  | 30 => sp_spoilt
  | 27 => sp_ldeep
  | 28 => sp_lfine
  | 26 => sp_right
  | _ => sp_law
def adT (a20 a21 a22 a29 a9 a10 a3 a4 a5 a6 a24 a25 a23 a30 a27 a28 a26 : Addr) : Nat → Addr := fun i => match i with
  | 20 => a20
  | 21 => a21
  | 22 => a22
  | 29 => a29
  | 9 => a9
  | 10 => a10
  | 3 => a3
  | 4 => a4
  | 5 => a5
  | 6 => a6
  | 24 => a24
  | 25 => a25
  | 23 => a23
  | 30 => a30
  | 27 => a27
  | 28 => a28
  | 26 => a26
  | _ => 0
abbrev TT : Tb := fun i S => S = tab i
theorem lenF_is_number : ∀ (al : sp_isnum.al) (ds : List D) (m : Mp), sp_isnum.pre al ds m → ds.length = ([(Str.ofString "thing")] : List Str).length := fun al ds m h => by
  first | (have h := (h : _ ∧ _).1; rw [h]; rfl) | (have h : ds = _ := h; rw [h]; rfl) | (obtain ⟨⟨h, _⟩, _⟩ := h; rw [h]; rfl) | (rcases al with a | d <;> (obtain ⟨h, _⟩ := h; rw [h]; rfl)) | (rcases al with ⟨a | d, q⟩ <;> (obtain ⟨_, h, _⟩ := h; rw [h]; rfl)) | exact (h : False).elim | (rcases al with _ | ⟨a, d⟩ <;> first | (have h : ds = _ := h; rw [h]; rfl) | (have h := (h : _ ∧ _).1; rw [h]; rfl))
theorem lenF_is_text : ∀ (al : sp_istext.al) (ds : List D) (m : Mp), sp_istext.pre al ds m → ds.length = ([(Str.ofString "thing")] : List Str).length := fun al ds m h => by
  first | (have h := (h : _ ∧ _).1; rw [h]; rfl) | (have h : ds = _ := h; rw [h]; rfl) | (obtain ⟨⟨h, _⟩, _⟩ := h; rw [h]; rfl) | (rcases al with a | d <;> (obtain ⟨h, _⟩ := h; rw [h]; rfl)) | (rcases al with ⟨a | d, q⟩ <;> (obtain ⟨_, h, _⟩ := h; rw [h]; rfl)) | exact (h : False).elim | (rcases al with _ | ⟨a, d⟩ <;> first | (have h : ds = _ := h; rw [h]; rfl) | (have h := (h : _ ∧ _).1; rw [h]; rfl))
theorem lenF_is_within : ∀ (al : sp_within.al) (ds : List D) (m : Mp), sp_within.pre al ds m → ds.length = ([(Str.ofString "thing"), (Str.ofString "deep")] : List Str).length := fun al ds m h => by
  first | (have h := (h : _ ∧ _).1; rw [h]; rfl) | (have h : ds = _ := h; rw [h]; rfl) | (obtain ⟨⟨h, _⟩, _⟩ := h; rw [h]; rfl) | (rcases al with a | d <;> (obtain ⟨h, _⟩ := h; rw [h]; rfl)) | (rcases al with ⟨a | d, q⟩ <;> (obtain ⟨_, h, _⟩ := h; rw [h]; rfl)) | exact (h : False).elim | (rcases al with _ | ⟨a, d⟩ <;> first | (have h : ds = _ := h; rw [h]; rfl) | (have h := (h : _ ∧ _).1; rw [h]; rfl))
theorem lenF_is_thing : ∀ (al : sp_isthing.al) (ds : List D) (m : Mp), sp_isthing.pre al ds m → ds.length = ([(Str.ofString "thing")] : List Str).length := fun al ds m h => by
  first | (have h := (h : _ ∧ _).1; rw [h]; rfl) | (have h : ds = _ := h; rw [h]; rfl) | (obtain ⟨⟨h, _⟩, _⟩ := h; rw [h]; rfl) | (rcases al with a | d <;> (obtain ⟨h, _⟩ := h; rw [h]; rfl)) | (rcases al with ⟨a | d, q⟩ <;> (obtain ⟨_, h, _⟩ := h; rw [h]; rfl)) | exact (h : False).elim | (rcases al with _ | ⟨a, d⟩ <;> first | (have h : ds = _ := h; rw [h]; rfl) | (have h := (h : _ ∧ _).1; rw [h]; rfl))
theorem lenF_law_cell_at : ∀ (al : sp_cell.al) (ds : List D) (m : Mp), sp_cell.pre al ds m → ds.length = ([(Str.ofString "script"), (Str.ofString "k")] : List Str).length := fun al ds m h => by
  first | (have h := (h : _ ∧ _).1; rw [h]; rfl) | (have h : ds = _ := h; rw [h]; rfl) | (obtain ⟨⟨h, _⟩, _⟩ := h; rw [h]; rfl) | (rcases al with a | d <;> (obtain ⟨h, _⟩ := h; rw [h]; rfl)) | (rcases al with ⟨a | d, q⟩ <;> (obtain ⟨_, h, _⟩ := h; rw [h]; rfl)) | exact (h : False).elim | (rcases al with _ | ⟨a, d⟩ <;> first | (have h : ds = _ := h; rw [h]; rfl) | (have h := (h : _ ∧ _).1; rw [h]; rfl))
theorem lenF_law_stream : ∀ (al : sp_stream.al) (ds : List D) (m : Mp), sp_stream.pre al ds m → ds.length = ([(Str.ofString "cell"), (Str.ofString "way")] : List Str).length := fun al ds m h => by
  first | (have h := (h : _ ∧ _).1; rw [h]; rfl) | (have h : ds = _ := h; rw [h]; rfl) | (obtain ⟨⟨h, _⟩, _⟩ := h; rw [h]; rfl) | (rcases al with a | d <;> (obtain ⟨h, _⟩ := h; rw [h]; rfl)) | (rcases al with ⟨a | d, q⟩ <;> (obtain ⟨_, h, _⟩ := h; rw [h]; rfl)) | exact (h : False).elim | (rcases al with _ | ⟨a, d⟩ <;> first | (have h : ds = _ := h; rw [h]; rfl) | (have h := (h : _ ∧ _).1; rw [h]; rfl))
theorem lenF_law_take : ∀ (al : sp_take.al) (ds : List D) (m : Mp), sp_take.pre al ds m → ds.length = ([(Str.ofString "row"), (Str.ofString "many")] : List Str).length := fun al ds m h => by
  first | (have h := (h : _ ∧ _).1; rw [h]; rfl) | (have h : ds = _ := h; rw [h]; rfl) | (obtain ⟨⟨h, _⟩, _⟩ := h; rw [h]; rfl) | (rcases al with a | d <;> (obtain ⟨h, _⟩ := h; rw [h]; rfl)) | (rcases al with ⟨a | d, q⟩ <;> (obtain ⟨_, h, _⟩ := h; rw [h]; rfl)) | exact (h : False).elim | (rcases al with _ | ⟨a, d⟩ <;> first | (have h : ds = _ := h; rw [h]; rfl) | (have h := (h : _ ∧ _).1; rw [h]; rfl))
theorem lenF_law_number : ∀ (al : sp_number.al) (ds : List D) (m : Mp), sp_number.pre al ds m → ds.length = ([(Str.ofString "row")] : List Str).length := fun al ds m h => by
  first | (have h := (h : _ ∧ _).1; rw [h]; rfl) | (have h : ds = _ := h; rw [h]; rfl) | (obtain ⟨⟨h, _⟩, _⟩ := h; rw [h]; rfl) | (rcases al with a | d <;> (obtain ⟨h, _⟩ := h; rw [h]; rfl)) | (rcases al with ⟨a | d, q⟩ <;> (obtain ⟨_, h, _⟩ := h; rw [h]; rfl)) | exact (h : False).elim | (rcases al with _ | ⟨a, d⟩ <;> first | (have h : ds = _ := h; rw [h]; rfl) | (have h := (h : _ ∧ _).1; rw [h]; rfl))
theorem lenF_law_text : ∀ (al : sp_text.al) (ds : List D) (m : Mp), sp_text.pre al ds m → ds.length = ([(Str.ofString "row")] : List Str).length := fun al ds m h => by
  first | (have h := (h : _ ∧ _).1; rw [h]; rfl) | (have h : ds = _ := h; rw [h]; rfl) | (obtain ⟨⟨h, _⟩, _⟩ := h; rw [h]; rfl) | (rcases al with a | d <;> (obtain ⟨h, _⟩ := h; rw [h]; rfl)) | (rcases al with ⟨a | d, q⟩ <;> (obtain ⟨_, h, _⟩ := h; rw [h]; rfl)) | exact (h : False).elim | (rcases al with _ | ⟨a, d⟩ <;> first | (have h : ds = _ := h; rw [h]; rfl) | (have h := (h : _ ∧ _).1; rw [h]; rfl))
theorem lenF_law_thing : ∀ (al : sp_thing.al) (ds : List D) (m : Mp), sp_thing.pre al ds m → ds.length = ([(Str.ofString "row"), (Str.ofString "deep"), (Str.ofString "left")] : List Str).length := fun al ds m h => by
  first | (have h := (h : _ ∧ _).1; rw [h]; rfl) | (have h : ds = _ := h; rw [h]; rfl) | (obtain ⟨⟨h, _⟩, _⟩ := h; rw [h]; rfl) | (rcases al with a | d <;> (obtain ⟨h, _⟩ := h; rw [h]; rfl)) | (rcases al with ⟨a | d, q⟩ <;> (obtain ⟨_, h, _⟩ := h; rw [h]; rfl)) | exact (h : False).elim | (rcases al with _ | ⟨a, d⟩ <;> first | (have h : ds = _ := h; rw [h]; rfl) | (have h := (h : _ ∧ _).1; rw [h]; rfl))
theorem lenF_law_bad : ∀ (al : sp_bad.al) (ds : List D) (m : Mp), sp_bad.pre al ds m → ds.length = ([(Str.ofString "row")] : List Str).length := fun al ds m h => by
  first | (have h := (h : _ ∧ _).1; rw [h]; rfl) | (have h : ds = _ := h; rw [h]; rfl) | (obtain ⟨⟨h, _⟩, _⟩ := h; rw [h]; rfl) | (rcases al with a | d <;> (obtain ⟨h, _⟩ := h; rw [h]; rfl)) | (rcases al with ⟨a | d, q⟩ <;> (obtain ⟨_, h, _⟩ := h; rw [h]; rfl)) | exact (h : False).elim | (rcases al with _ | ⟨a, d⟩ <;> first | (have h : ds = _ := h; rw [h]; rfl) | (have h := (h : _ ∧ _).1; rw [h]; rfl))
theorem lenF_law_wrapped : ∀ (al : sp_wrapped.al) (ds : List D) (m : Mp), sp_wrapped.pre al ds m → ds.length = ([(Str.ofString "row"), (Str.ofString "thing"), (Str.ofString "many")] : List Str).length := fun al ds m h => by
  first | (have h := (h : _ ∧ _).1; rw [h]; rfl) | (have h : ds = _ := h; rw [h]; rfl) | (obtain ⟨⟨h, _⟩, _⟩ := h; rw [h]; rfl) | (rcases al with a | d <;> (obtain ⟨h, _⟩ := h; rw [h]; rfl)) | (rcases al with ⟨a | d, q⟩ <;> (obtain ⟨_, h, _⟩ := h; rw [h]; rfl)) | exact (h : False).elim | (rcases al with _ | ⟨a, d⟩ <;> first | (have h : ds = _ := h; rw [h]; rfl) | (have h := (h : _ ∧ _).1; rw [h]; rfl))
theorem lenF_law_put_in : ∀ (al : sp_putin.al) (ds : List D) (m : Mp), sp_putin.pre al ds m → ds.length = ([(Str.ofString "row"), (Str.ofString "thing"), (Str.ofString "bad")] : List Str).length := fun al ds m h => by
  first | (have h := (h : _ ∧ _).1; rw [h]; rfl) | (have h : ds = _ := h; rw [h]; rfl) | (obtain ⟨⟨h, _⟩, _⟩ := h; rw [h]; rfl) | (rcases al with a | d <;> (obtain ⟨h, _⟩ := h; rw [h]; rfl)) | (rcases al with ⟨a | d, q⟩ <;> (obtain ⟨_, h, _⟩ := h; rw [h]; rfl)) | exact (h : False).elim | (rcases al with _ | ⟨a, d⟩ <;> first | (have h : ds = _ := h; rw [h]; rfl) | (have h := (h : _ ∧ _).1; rw [h]; rfl))
theorem lenF_law_spoilt_right : ∀ (al : sp_spoilt.al) (ds : List D) (m : Mp), sp_spoilt.pre al ds m → ds.length = ([(Str.ofString "row"), (Str.ofString "thing")] : List Str).length := fun al ds m h => by
  first | (have h := (h : _ ∧ _).1; rw [h]; rfl) | (have h : ds = _ := h; rw [h]; rfl) | (obtain ⟨⟨h, _⟩, _⟩ := h; rw [h]; rfl) | (rcases al with a | d <;> (obtain ⟨h, _⟩ := h; rw [h]; rfl)) | (rcases al with ⟨a | d, q⟩ <;> (obtain ⟨_, h, _⟩ := h; rw [h]; rfl)) | exact (h : False).elim | (rcases al with _ | ⟨a, d⟩ <;> first | (have h : ds = _ := h; rw [h]; rfl) | (have h := (h : _ ∧ _).1; rw [h]; rfl))
theorem lenF_law_deep : ∀ (al : sp_ldeep.al) (ds : List D) (m : Mp), sp_ldeep.pre al ds m → ds.length = ([(Str.ofString "thing")] : List Str).length := fun al ds m h => by
  first | (have h := (h : _ ∧ _).1; rw [h]; rfl) | (have h : ds = _ := h; rw [h]; rfl) | (obtain ⟨⟨h, _⟩, _⟩ := h; rw [h]; rfl) | (rcases al with a | d <;> (obtain ⟨h, _⟩ := h; rw [h]; rfl)) | (rcases al with ⟨a | d, q⟩ <;> (obtain ⟨_, h, _⟩ := h; rw [h]; rfl)) | exact (h : False).elim | (rcases al with _ | ⟨a, d⟩ <;> first | (have h : ds = _ := h; rw [h]; rfl) | (have h := (h : _ ∧ _).1; rw [h]; rfl))
theorem lenF_law_fine : ∀ (al : sp_lfine.al) (ds : List D) (m : Mp), sp_lfine.pre al ds m → ds.length = ([(Str.ofString "thing")] : List Str).length := fun al ds m h => by
  first | (have h := (h : _ ∧ _).1; rw [h]; rfl) | (have h : ds = _ := h; rw [h]; rfl) | (obtain ⟨⟨h, _⟩, _⟩ := h; rw [h]; rfl) | (rcases al with a | d <;> (obtain ⟨h, _⟩ := h; rw [h]; rfl)) | (rcases al with ⟨a | d, q⟩ <;> (obtain ⟨_, h, _⟩ := h; rw [h]; rfl)) | exact (h : False).elim | (rcases al with _ | ⟨a, d⟩ <;> first | (have h : ds = _ := h; rw [h]; rfl) | (have h := (h : _ ∧ _).1; rw [h]; rfl))
theorem lenF_law_right : ∀ (al : sp_right.al) (ds : List D) (m : Mp), sp_right.pre al ds m → ds.length = ([(Str.ofString "thing")] : List Str).length := fun al ds m h => by
  first | (have h := (h : _ ∧ _).1; rw [h]; rfl) | (have h : ds = _ := h; rw [h]; rfl) | (obtain ⟨⟨h, _⟩, _⟩ := h; rw [h]; rfl) | (rcases al with a | d <;> (obtain ⟨h, _⟩ := h; rw [h]; rfl)) | (rcases al with ⟨a | d, q⟩ <;> (obtain ⟨_, h, _⟩ := h; rw [h]; rfl)) | exact (h : False).elim | (rcases al with _ | ⟨a, d⟩ <;> first | (have h : ds = _ := h; rw [h]; rfl) | (have h := (h : _ ∧ _).1; rw [h]; rfl))
theorem lenF_law : ∀ (al : sp_law.al) (ds : List D) (m : Mp), sp_law.pre al ds m → ds.length = ([(Str.ofString "script")] : List Str).length := fun al ds m h => by
  first | (have h := (h : _ ∧ _).1; rw [h]; rfl) | (have h : ds = _ := h; rw [h]; rfl) | (obtain ⟨⟨h, _⟩, _⟩ := h; rw [h]; rfl) | (rcases al with a | d <;> (obtain ⟨h, _⟩ := h; rw [h]; rfl)) | (rcases al with ⟨a | d, q⟩ <;> (obtain ⟨_, h, _⟩ := h; rw [h]; rfl)) | exact (h : False).elim | (rcases al with _ | ⟨a, d⟩ <;> first | (have h : ds = _ := h; rw [h]; rfl) | (have h := (h : _ ∧ _).1; rw [h]; rfl))
theorem all_mk {l : PySem.W.OpenLaw} {w : World} {K : PySem.W.Frag} {h : Heap} {mg : Str → Option Value} {fa a20 a21 a22 a29 a9 a10 a3 a4 a5 a6 a24 a25 a23 a30 a27 a28 a26 a31 : Addr} (X : K.In h) (G : h.Ns mainGlobals mg) (hfa : mg "law" = some (.ref fa))
    {od20 an20 : Option Addr} {sl20 : Array (Option Value)} {oc20 kV20 dc20 pm20 cd20 ct20 : Value}
    {od21 an21 : Option Addr} {sl21 : Array (Option Value)} {oc21 kV21 dc21 pm21 cd21 ct21 : Value}
    {od22 an22 : Option Addr} {sl22 : Array (Option Value)} {oc22 kV22 dc22 pm22 cd22 ct22 : Value}
    {od29 an29 : Option Addr} {sl29 : Array (Option Value)} {oc29 kV29 dc29 pm29 cd29 ct29 : Value}
    {od9 an9 : Option Addr} {sl9 : Array (Option Value)} {oc9 kV9 dc9 pm9 cd9 ct9 : Value}
    {od10 an10 : Option Addr} {sl10 : Array (Option Value)} {oc10 kV10 dc10 pm10 cd10 ct10 : Value}
    {od3 an3 : Option Addr} {sl3 : Array (Option Value)} {oc3 kV3 dc3 pm3 cd3 ct3 : Value}
    {od4 an4 : Option Addr} {sl4 : Array (Option Value)} {oc4 kV4 dc4 pm4 cd4 ct4 : Value}
    {od5 an5 : Option Addr} {sl5 : Array (Option Value)} {oc5 kV5 dc5 pm5 cd5 ct5 : Value}
    {od6 an6 : Option Addr} {sl6 : Array (Option Value)} {oc6 kV6 dc6 pm6 cd6 ct6 : Value}
    {od24 an24 : Option Addr} {sl24 : Array (Option Value)} {oc24 kV24 dc24 pm24 cd24 ct24 : Value}
    {od25 an25 : Option Addr} {sl25 : Array (Option Value)} {oc25 kV25 dc25 pm25 cd25 ct25 : Value}
    {od23 an23 : Option Addr} {sl23 : Array (Option Value)} {oc23 kV23 dc23 pm23 cd23 ct23 : Value}
    {od30 an30 : Option Addr} {sl30 : Array (Option Value)} {oc30 kV30 dc30 pm30 cd30 ct30 : Value}
    {od27 an27 : Option Addr} {sl27 : Array (Option Value)} {oc27 kV27 dc27 pm27 cd27 ct27 : Value}
    {od28 an28 : Option Addr} {sl28 : Array (Option Value)} {oc28 kV28 dc28 pm28 cd28 ct28 : Value}
    {od26 an26 : Option Addr} {sl26 : Array (Option Value)} {oc26 kV26 dc26 pm26 cd26 ct26 : Value}
    {od31 an31 : Option Addr} {sl31 : Array (Option Value)} {oc31 kV31 dc31 pm31 cd31 ct31 : Value}
    (n20 : PySem.W.nsIn K mainGlobals (Str.ofString "is_number") = some (some (.ref a20))) (l20 : K.lookup a20 = some ⟨oc20, od20, .func (PySem.W.fnOf (Str.ofString "is_number") (Str.ofString "is_number") (defArgs st_is_number) (defBody st_is_number) (defScope st_is_number) .none kV20 dc20 pm20 an20 cd20 ct20), sl20⟩) (c20 : PySem.W.codeIn K cd20 (Str.ofString "is_number") = true) (k20 : PySem.W.keepIn K (.ref a20) = true)
    (n21 : PySem.W.nsIn K mainGlobals (Str.ofString "is_text") = some (some (.ref a21))) (l21 : K.lookup a21 = some ⟨oc21, od21, .func (PySem.W.fnOf (Str.ofString "is_text") (Str.ofString "is_text") (defArgs st_is_text) (defBody st_is_text) (defScope st_is_text) .none kV21 dc21 pm21 an21 cd21 ct21), sl21⟩) (c21 : PySem.W.codeIn K cd21 (Str.ofString "is_text") = true) (k21 : PySem.W.keepIn K (.ref a21) = true)
    (n22 : PySem.W.nsIn K mainGlobals (Str.ofString "is_within") = some (some (.ref a22))) (l22 : K.lookup a22 = some ⟨oc22, od22, .func (PySem.W.fnOf (Str.ofString "is_within") (Str.ofString "is_within") (defArgs st_is_within) (defBody st_is_within) (defScope st_is_within) .none kV22 dc22 pm22 an22 cd22 ct22), sl22⟩) (c22 : PySem.W.codeIn K cd22 (Str.ofString "is_within") = true) (k22 : PySem.W.keepIn K (.ref a22) = true)
    (n29 : PySem.W.nsIn K mainGlobals (Str.ofString "is_thing") = some (some (.ref a29))) (l29 : K.lookup a29 = some ⟨oc29, od29, .func (PySem.W.fnOf (Str.ofString "is_thing") (Str.ofString "is_thing") (defArgs st_is_thing) (defBody st_is_thing) (defScope st_is_thing) .none kV29 dc29 pm29 an29 cd29 ct29), sl29⟩) (c29 : PySem.W.codeIn K cd29 (Str.ofString "is_thing") = true) (k29 : PySem.W.keepIn K (.ref a29) = true)
    (n9 : PySem.W.nsIn K mainGlobals (Str.ofString "_law_cell_at") = some (some (.ref a9))) (l9 : K.lookup a9 = some ⟨oc9, od9, .func (PySem.W.fnOf (Str.ofString "_law_cell_at") (Str.ofString "_law_cell_at") (defArgs st_law_cell_at) (defBody st_law_cell_at) (defScope st_law_cell_at) .none kV9 dc9 pm9 an9 cd9 ct9), sl9⟩) (c9 : PySem.W.codeIn K cd9 (Str.ofString "_law_cell_at") = true) (k9 : PySem.W.keepIn K (.ref a9) = true)
    (n10 : PySem.W.nsIn K mainGlobals (Str.ofString "_law_stream") = some (some (.ref a10))) (l10 : K.lookup a10 = some ⟨oc10, od10, .func (PySem.W.fnOf (Str.ofString "_law_stream") (Str.ofString "_law_stream") (defArgs st_law_stream) (defBody st_law_stream) (defScope st_law_stream) .none kV10 dc10 pm10 an10 cd10 ct10), sl10⟩) (c10 : PySem.W.codeIn K cd10 (Str.ofString "_law_stream") = true) (k10 : PySem.W.keepIn K (.ref a10) = true)
    (n3 : PySem.W.nsIn K mainGlobals (Str.ofString "_law_take") = some (some (.ref a3))) (l3 : K.lookup a3 = some ⟨oc3, od3, .func (PySem.W.fnOf (Str.ofString "_law_take") (Str.ofString "_law_take") (defArgs st_law_take) (defBody st_law_take) (defScope st_law_take) .none kV3 dc3 pm3 an3 cd3 ct3), sl3⟩) (c3 : PySem.W.codeIn K cd3 (Str.ofString "_law_take") = true) (k3 : PySem.W.keepIn K (.ref a3) = true)
    (n4 : PySem.W.nsIn K mainGlobals (Str.ofString "_law_number") = some (some (.ref a4))) (l4 : K.lookup a4 = some ⟨oc4, od4, .func (PySem.W.fnOf (Str.ofString "_law_number") (Str.ofString "_law_number") (defArgs st_law_number) (defBody st_law_number) (defScope st_law_number) .none kV4 dc4 pm4 an4 cd4 ct4), sl4⟩) (c4 : PySem.W.codeIn K cd4 (Str.ofString "_law_number") = true) (k4 : PySem.W.keepIn K (.ref a4) = true)
    (n5 : PySem.W.nsIn K mainGlobals (Str.ofString "_law_text") = some (some (.ref a5))) (l5 : K.lookup a5 = some ⟨oc5, od5, .func (PySem.W.fnOf (Str.ofString "_law_text") (Str.ofString "_law_text") (defArgs st_law_text) (defBody st_law_text) (defScope st_law_text) .none kV5 dc5 pm5 an5 cd5 ct5), sl5⟩) (c5 : PySem.W.codeIn K cd5 (Str.ofString "_law_text") = true) (k5 : PySem.W.keepIn K (.ref a5) = true)
    (n6 : PySem.W.nsIn K mainGlobals (Str.ofString "_law_thing") = some (some (.ref a6))) (l6 : K.lookup a6 = some ⟨oc6, od6, .func (PySem.W.fnOf (Str.ofString "_law_thing") (Str.ofString "_law_thing") (defArgs st_law_thing) (defBody st_law_thing) (defScope st_law_thing) .none kV6 dc6 pm6 an6 cd6 ct6), sl6⟩) (c6 : PySem.W.codeIn K cd6 (Str.ofString "_law_thing") = true) (k6 : PySem.W.keepIn K (.ref a6) = true)
    (n24 : PySem.W.nsIn K mainGlobals (Str.ofString "_law_bad") = some (some (.ref a24))) (l24 : K.lookup a24 = some ⟨oc24, od24, .func (PySem.W.fnOf (Str.ofString "_law_bad") (Str.ofString "_law_bad") (defArgs st_law_bad) (defBody st_law_bad) (defScope st_law_bad) .none kV24 dc24 pm24 an24 cd24 ct24), sl24⟩) (c24 : PySem.W.codeIn K cd24 (Str.ofString "_law_bad") = true) (k24 : PySem.W.keepIn K (.ref a24) = true)
    (n25 : PySem.W.nsIn K mainGlobals (Str.ofString "_law_wrapped") = some (some (.ref a25))) (l25 : K.lookup a25 = some ⟨oc25, od25, .func (PySem.W.fnOf (Str.ofString "_law_wrapped") (Str.ofString "_law_wrapped") (defArgs st_law_wrapped) (defBody st_law_wrapped) (defScope st_law_wrapped) .none kV25 dc25 pm25 an25 cd25 ct25), sl25⟩) (c25 : PySem.W.codeIn K cd25 (Str.ofString "_law_wrapped") = true) (k25 : PySem.W.keepIn K (.ref a25) = true)
    (n23 : PySem.W.nsIn K mainGlobals (Str.ofString "_law_put_in") = some (some (.ref a23))) (l23 : K.lookup a23 = some ⟨oc23, od23, .func (PySem.W.fnOf (Str.ofString "_law_put_in") (Str.ofString "_law_put_in") (defArgs st_law_put_in) (defBody st_law_put_in) (defScope st_law_put_in) .none kV23 dc23 pm23 an23 cd23 ct23), sl23⟩) (c23 : PySem.W.codeIn K cd23 (Str.ofString "_law_put_in") = true) (k23 : PySem.W.keepIn K (.ref a23) = true)
    (n30 : PySem.W.nsIn K mainGlobals (Str.ofString "_law_spoilt_right") = some (some (.ref a30))) (l30 : K.lookup a30 = some ⟨oc30, od30, .func (PySem.W.fnOf (Str.ofString "_law_spoilt_right") (Str.ofString "_law_spoilt_right") (defArgs st_law_spoilt_right) (defBody st_law_spoilt_right) (defScope st_law_spoilt_right) .none kV30 dc30 pm30 an30 cd30 ct30), sl30⟩) (c30 : PySem.W.codeIn K cd30 (Str.ofString "_law_spoilt_right") = true) (k30 : PySem.W.keepIn K (.ref a30) = true)
    (n27 : PySem.W.nsIn K mainGlobals (Str.ofString "_law_deep") = some (some (.ref a27))) (l27 : K.lookup a27 = some ⟨oc27, od27, .func (PySem.W.fnOf (Str.ofString "_law_deep") (Str.ofString "_law_deep") (defArgs st_law_deep) (defBody st_law_deep) (defScope st_law_deep) .none kV27 dc27 pm27 an27 cd27 ct27), sl27⟩) (c27 : PySem.W.codeIn K cd27 (Str.ofString "_law_deep") = true) (k27 : PySem.W.keepIn K (.ref a27) = true)
    (n28 : PySem.W.nsIn K mainGlobals (Str.ofString "_law_fine") = some (some (.ref a28))) (l28 : K.lookup a28 = some ⟨oc28, od28, .func (PySem.W.fnOf (Str.ofString "_law_fine") (Str.ofString "_law_fine") (defArgs st_law_fine) (defBody st_law_fine) (defScope st_law_fine) .none kV28 dc28 pm28 an28 cd28 ct28), sl28⟩) (c28 : PySem.W.codeIn K cd28 (Str.ofString "_law_fine") = true) (k28 : PySem.W.keepIn K (.ref a28) = true)
    (n26 : PySem.W.nsIn K mainGlobals (Str.ofString "_law_right") = some (some (.ref a26))) (l26 : K.lookup a26 = some ⟨oc26, od26, .func (PySem.W.fnOf (Str.ofString "_law_right") (Str.ofString "_law_right") (defArgs st_law_right) (defBody st_law_right) (defScope st_law_right) .none kV26 dc26 pm26 an26 cd26 ct26), sl26⟩) (c26 : PySem.W.codeIn K cd26 (Str.ofString "_law_right") = true) (k26 : PySem.W.keepIn K (.ref a26) = true)
    (n31 : PySem.W.nsIn K mainGlobals (Str.ofString "law") = some (some (.ref a31))) (l31 : K.lookup a31 = some ⟨oc31, od31, .func (PySem.W.fnOf (Str.ofString "law") (Str.ofString "law") (defArgs st_law) (defBody st_law) (defScope st_law) .none kV31 dc31 pm31 an31 cd31 ct31), sl31⟩) (c31 : PySem.W.codeIn K cd31 (Str.ofString "law") = true) (k31 : PySem.W.keepIn K (.ref a31) = true)
    (z_abs : PySem.W.nsIn K mainGlobals (Str.ofString "abs") = some none)
    (z_bool : PySem.W.nsIn K mainGlobals (Str.ofString "bool") = some none)
    (z_int : PySem.W.nsIn K mainGlobals (Str.ofString "int") = some none)
    (z_isinstance : PySem.W.nsIn K mainGlobals (Str.ofString "isinstance") = some none)
    (z_len : PySem.W.nsIn K mainGlobals (Str.ofString "len") = some none)
    (z_list : PySem.W.nsIn K mainGlobals (Str.ofString "list") = some none)
    (z_max : PySem.W.nsIn K mainGlobals (Str.ofString "max") = some none)
    (z_min : PySem.W.nsIn K mainGlobals (Str.ofString "min") = some none)
    (z_ord : PySem.W.nsIn K mainGlobals (Str.ofString "ord") = some none)
    (z_range : PySem.W.nsIn K mainGlobals (Str.ofString "range") = some none)
    (z_str : PySem.W.nsIn K mainGlobals (Str.ofString "str") = some none)
    (z_tuple : PySem.W.nsIn K mainGlobals (Str.ofString "tuple") = some none)
    {v_DEEPEST : Value} (y_DEEPEST : PySem.W.nsIn K mainGlobals (Str.ofString "DEEPEST") = some (some v_DEEPEST)) (x_DEEPEST : RelV (.int 5) v_DEEPEST)
    {v_MOST_NUMBER : Value} (y_MOST_NUMBER : PySem.W.nsIn K mainGlobals (Str.ofString "MOST_NUMBER") = some (some v_MOST_NUMBER)) (x_MOST_NUMBER : RelV (.int 1000000000000000000000000000000) v_MOST_NUMBER)
    {v_MOST_SIGNS : Value} (y_MOST_SIGNS : PySem.W.nsIn K mainGlobals (Str.ofString "MOST_SIGNS") = some (some v_MOST_SIGNS)) (x_MOST_SIGNS : RelV (.int 60) v_MOST_SIGNS)
    {v_MOST_THINGS : Value} (y_MOST_THINGS : PySem.W.nsIn K mainGlobals (Str.ofString "MOST_THINGS") = some (some v_MOST_THINGS)) (x_MOST_THINGS : RelV (.int 40) v_MOST_THINGS)
    {e_NoThing : Addr} (en_NoThing : PySem.W.nsIn K mainGlobals (Str.ofString "NoThing") = some (some (.ref e_NoThing))) (ef_NoThing : ExF K e_NoThing) (eo_NoThing : PySem.W.excIn K e_NoThing [.type "ValueError", .type "Exception", .type "BaseException", .type "object"] "ValueError.__new__" = true)
    (es_NoThing : PySem.W.subIn K (.ref e_NoThing) (.ref e_NoThing) = some true)
    : ∃ fd : FuncData, (∀ (s : Shared) (v : Value), BindsTo s fd ⟨[v], []⟩ [("script", v)]) ∧ ∀ base : Heap, K.In base → base.Ns mainGlobals mg → FnOk l.prog w K mg base (L2.CX l.prog w) 40 fa fd ["script"] (rawSp K) := by
  have e := hfa.symm.trans (PySem.W.mg_of X G n31)
  cases e
  have F20 := fun_mk (st := st_is_number) l20 c20 k20
  have F21 := fun_mk (st := st_is_text) l21 c21 k21
  have F22 := fun_mk (st := st_is_within) l22 c22 k22
  have F29 := fun_mk (st := st_is_thing) l29 c29 k29
  have F9 := fun_mk (st := st_law_cell_at) l9 c9 k9
  have F10 := fun_mk (st := st_law_stream) l10 c10 k10
  have F3 := fun_mk (st := st_law_take) l3 c3 k3
  have F4 := fun_mk (st := st_law_number) l4 c4 k4
  have F5 := fun_mk (st := st_law_text) l5 c5 k5
  have F6 := fun_mk (st := st_law_thing) l6 c6 k6
  have F24 := fun_mk (st := st_law_bad) l24 c24 k24
  have F25 := fun_mk (st := st_law_wrapped) l25 c25 k25
  have F23 := fun_mk (st := st_law_put_in) l23 c23 k23
  have F30 := fun_mk (st := st_law_spoilt_right) l30 c30 k30
  have F27 := fun_mk (st := st_law_deep) l27 c27 k27
  have F28 := fun_mk (st := st_law_fine) l28 c28 k28
  have F26 := fun_mk (st := st_law_right) l26 c26 k26
  have F31 := fun_mk (st := st_law) l31 c31 k31
  have B20 := F20.binds (ps := [(Str.ofString "thing")]) fun _ _ _ _ _ _ us hl => match us, hl with | [_], _ => rfl
  have B21 := F21.binds (ps := [(Str.ofString "thing")]) fun _ _ _ _ _ _ us hl => match us, hl with | [_], _ => rfl
  have B22 := F22.binds (ps := [(Str.ofString "thing"), (Str.ofString "deep")]) fun _ _ _ _ _ _ us hl => match us, hl with | [_, _], _ => rfl
  have B29 := F29.binds (ps := [(Str.ofString "thing")]) fun _ _ _ _ _ _ us hl => match us, hl with | [_], _ => rfl
  have B9 := F9.binds (ps := [(Str.ofString "script"), (Str.ofString "k")]) fun _ _ _ _ _ _ us hl => match us, hl with | [_, _], _ => rfl
  have B10 := F10.binds (ps := [(Str.ofString "cell"), (Str.ofString "way")]) fun _ _ _ _ _ _ us hl => match us, hl with | [_, _], _ => rfl
  have B3 := F3.binds (ps := [(Str.ofString "row"), (Str.ofString "many")]) fun _ _ _ _ _ _ us hl => match us, hl with | [_, _], _ => rfl
  have B4 := F4.binds (ps := [(Str.ofString "row")]) fun _ _ _ _ _ _ us hl => match us, hl with | [_], _ => rfl
  have B5 := F5.binds (ps := [(Str.ofString "row")]) fun _ _ _ _ _ _ us hl => match us, hl with | [_], _ => rfl
  have B6 := F6.binds (ps := [(Str.ofString "row"), (Str.ofString "deep"), (Str.ofString "left")]) fun _ _ _ _ _ _ us hl => match us, hl with | [_, _, _], _ => rfl
  have B24 := F24.binds (ps := [(Str.ofString "row")]) fun _ _ _ _ _ _ us hl => match us, hl with | [_], _ => rfl
  have B25 := F25.binds (ps := [(Str.ofString "row"), (Str.ofString "thing"), (Str.ofString "many")]) fun _ _ _ _ _ _ us hl => match us, hl with | [_, _, _], _ => rfl
  have B23 := F23.binds (ps := [(Str.ofString "row"), (Str.ofString "thing"), (Str.ofString "bad")]) fun _ _ _ _ _ _ us hl => match us, hl with | [_, _, _], _ => rfl
  have B30 := F30.binds (ps := [(Str.ofString "row"), (Str.ofString "thing")]) fun _ _ _ _ _ _ us hl => match us, hl with | [_, _], _ => rfl
  have B27 := F27.binds (ps := [(Str.ofString "thing")]) fun _ _ _ _ _ _ us hl => match us, hl with | [_], _ => rfl
  have B28 := F28.binds (ps := [(Str.ofString "thing")]) fun _ _ _ _ _ _ us hl => match us, hl with | [_], _ => rfl
  have B26 := F26.binds (ps := [(Str.ofString "thing")]) fun _ _ _ _ _ _ us hl => match us, hl with | [_], _ => rfl
  have exK : ExK K mg (clOf w [("NoThing", e_NoThing)]) := by
    exact exK_mk (l := [("NoThing", e_NoThing)]) (fun n hn a h => clOf_mem h) (allc (PySem.W.mg_of X G en_NoThing) alln) (allc (ef_NoThing) alln) (allc (fun _ => eo_NoThing) alln) (allc ((allc ((es_NoThing).trans (congrArg some (show true = subX "NoThing" "NoThing" from by decide))) alln)) alln)
  have W : ∀ (base : Heap), ∀ L, Wd l.prog w K mg base (clOf w [("NoThing", e_NoThing)]) TT (adT a20 a21 a22 a29 a9 a10 a3 a4 a5 a6 a24 a25 a23 a30 a27 a28 a26) L := by
    intro base L
    induction L with
    | zero => exact ⟨kn_mk (PySem.W.mg_of X G n20) F20 B20 fn0,
        kn_mk (PySem.W.mg_of X G n21) F21 B21 fn0,
        kn_mk (PySem.W.mg_of X G n22) F22 B22 fn0,
        kn_mk (PySem.W.mg_of X G n29) F29 B29 fn0,
        kn_mk (PySem.W.mg_of X G n9) F9 B9 fn0,
        kn_mk (PySem.W.mg_of X G n10) F10 B10 fn0,
        kn_mk (PySem.W.mg_of X G n3) F3 B3 fn0,
        kn_mk (PySem.W.mg_of X G n4) F4 B4 fn0,
        kn_mk (PySem.W.mg_of X G n5) F5 B5 fn0,
        kn_mk (PySem.W.mg_of X G n6) F6 B6 fn0,
        kn_mk (PySem.W.mg_of X G n24) F24 B24 fn0,
        kn_mk (PySem.W.mg_of X G n25) F25 B25 fn0,
        kn_mk (PySem.W.mg_of X G n23) F23 B23 fn0,
        kn_mk (PySem.W.mg_of X G n30) F30 B30 fn0,
        kn_mk (PySem.W.mg_of X G n27) F27 B27 fn0,
        kn_mk (PySem.W.mg_of X G n28) F28 B28 fn0,
        kn_mk (PySem.W.mg_of X G n26) F26 B26 fn0,
        PySem.W.mg_none_of X G z_abs,
        PySem.W.mg_none_of X G z_bool,
        PySem.W.mg_none_of X G z_int,
        PySem.W.mg_none_of X G z_isinstance,
        PySem.W.mg_none_of X G z_len,
        PySem.W.mg_none_of X G z_list,
        PySem.W.mg_none_of X G z_max,
        PySem.W.mg_none_of X G z_min,
        PySem.W.mg_none_of X G z_ord,
        PySem.W.mg_none_of X G z_range,
        PySem.W.mg_none_of X G z_str,
        PySem.W.mg_none_of X G z_tuple,
        exK,
        ⟨e_NoThing, by simp [clOf, List.lookup]⟩,
        ⟨_, PySem.W.mg_of X G y_DEEPEST, x_DEEPEST⟩,
        ⟨_, PySem.W.mg_of X G y_MOST_NUMBER, x_MOST_NUMBER⟩,
        ⟨_, PySem.W.mg_of X G y_MOST_SIGNS, x_MOST_SIGNS⟩,
        ⟨_, PySem.W.mg_of X G y_MOST_THINGS, x_MOST_THINGS⟩⟩
    | succ L IH => exact ⟨kn_mk (PySem.W.mg_of X G n20) F20 B20 (def_ok F20 sc_is_number lenF_is_number (b_isnum TT) (fun cdv A outer s H E hr => d_is_number IH cdv A outer s H E hr)),
        kn_mk (PySem.W.mg_of X G n21) F21 B21 (def_ok F21 sc_is_text lenF_is_text (b_istext TT) (fun cdv A outer s H E hr => d_is_text IH cdv A outer s H E hr)),
        kn_mk (PySem.W.mg_of X G n22) F22 B22 (def_ok F22 sc_is_within lenF_is_within (b_within TT rfl rfl rfl) (fun cdv A outer s H E hr => d_is_within IH cdv A outer s H E hr)),
        kn_mk (PySem.W.mg_of X G n29) F29 B29 (def_ok F29 sc_is_thing lenF_is_thing (b_isthing TT rfl) (fun cdv A outer s H E hr => d_is_thing IH cdv A outer s H E hr)),
        kn_mk (PySem.W.mg_of X G n9) F9 B9 (def_ok F9 sc_law_cell_at lenF_law_cell_at (b_cell TT) (fun cdv A outer s H E hr => d_law_cell_at IH cdv A outer s H E hr)),
        kn_mk (PySem.W.mg_of X G n10) F10 B10 (def_ok F10 sc_law_stream lenF_law_stream (b_stream TT) (fun cdv A outer s H E hr => d_law_stream IH cdv A outer s H E hr)),
        kn_mk (PySem.W.mg_of X G n3) F3 B3 (def_ok F3 sc_law_take lenF_law_take (b_take TT) (fun cdv A outer s H E hr => d_law_take IH cdv A outer s H E hr)),
        kn_mk (PySem.W.mg_of X G n4) F4 B4 (def_ok F4 sc_law_number lenF_law_number (b_number TT rfl) (fun cdv A outer s H E hr => d_law_number IH cdv A outer s H E hr)),
        kn_mk (PySem.W.mg_of X G n5) F5 B5 (def_ok F5 sc_law_text lenF_law_text (b_text TT rfl) (fun cdv A outer s H E hr => d_law_text IH cdv A outer s H E hr)),
        kn_mk (PySem.W.mg_of X G n6) F6 B6 (def_ok F6 sc_law_thing lenF_law_thing (b_thing TT rfl rfl rfl rfl) (fun cdv A outer s H E hr => d_law_thing IH cdv A outer s H E hr)),
        kn_mk (PySem.W.mg_of X G n24) F24 B24 (def_ok F24 sc_law_bad lenF_law_bad (b_bad TT rfl rfl) (fun cdv A outer s H E hr => d_law_bad IH cdv A outer s H E hr)),
        kn_mk (PySem.W.mg_of X G n25) F25 B25 (def_ok F25 sc_law_wrapped lenF_law_wrapped (b_wrapped TT rfl rfl) (fun cdv A outer s H E hr => d_law_wrapped IH cdv A outer s H E hr)),
        kn_mk (PySem.W.mg_of X G n23) F23 B23 (def_ok F23 sc_law_put_in lenF_law_put_in (b_putin TT rfl rfl) (fun cdv A outer s H E hr => d_law_put_in IH cdv A outer s H E hr)),
        kn_mk (PySem.W.mg_of X G n30) F30 B30 (def_ok F30 sc_law_spoilt_right lenF_law_spoilt_right (b_spoilt TT rfl rfl rfl rfl rfl) (fun cdv A outer s H E hr => d_law_spoilt_right IH cdv A outer s H E hr)),
        kn_mk (PySem.W.mg_of X G n27) F27 B27 (def_ok F27 sc_law_deep lenF_law_deep (b_ldeep TT rfl) (fun cdv A outer s H E hr => d_law_deep IH cdv A outer s H E hr)),
        kn_mk (PySem.W.mg_of X G n28) F28 B28 (def_ok F28 sc_law_fine lenF_law_fine (b_lfine TT rfl) (fun cdv A outer s H E hr => d_law_fine IH cdv A outer s H E hr)),
        kn_mk (PySem.W.mg_of X G n26) F26 B26 (def_ok F26 sc_law_right lenF_law_right (b_right TT rfl rfl rfl) (fun cdv A outer s H E hr => d_law_right IH cdv A outer s H E hr)),
        PySem.W.mg_none_of X G z_abs,
        PySem.W.mg_none_of X G z_bool,
        PySem.W.mg_none_of X G z_int,
        PySem.W.mg_none_of X G z_isinstance,
        PySem.W.mg_none_of X G z_len,
        PySem.W.mg_none_of X G z_list,
        PySem.W.mg_none_of X G z_max,
        PySem.W.mg_none_of X G z_min,
        PySem.W.mg_none_of X G z_ord,
        PySem.W.mg_none_of X G z_range,
        PySem.W.mg_none_of X G z_str,
        PySem.W.mg_none_of X G z_tuple,
        exK,
        ⟨e_NoThing, by simp [clOf, List.lookup]⟩,
        ⟨_, PySem.W.mg_of X G y_DEEPEST, x_DEEPEST⟩,
        ⟨_, PySem.W.mg_of X G y_MOST_NUMBER, x_MOST_NUMBER⟩,
        ⟨_, PySem.W.mg_of X G y_MOST_SIGNS, x_MOST_SIGNS⟩,
        ⟨_, PySem.W.mg_of X G y_MOST_THINGS, x_MOST_THINGS⟩⟩
  refine ⟨PySem.W.fnOf "law" "law" (defArgs st_law) (defBody st_law) (defScope st_law) .none kV31 dc31 pm31 an31 cd31 ct31, fun s v => .of_eq rfl, fun base _ _ => ?_⟩
  exact FnOk.imp (def_ok F31 sc_law lenF_law (b_law TT rfl rfl rfl rfl rfl rfl rfl rfl) (fun cdv A outer s H E hr => d_law (W base _) cdv A outer s H E hr)) (raw_of (S := sp_law) (fun a ns => (a, ns)) (fun _ _ => by dsimp only [sp_law]; decide) (fun a ns m h => ⟨rfl, h⟩) (fun _ _ _ _ h => h) (fun _ _ _ _ h => h))
theorem walk {l : PySem.W.OpenLaw} {q : Program} {loose : List Str} {XP : (Str → Option Value) → Heap → Prop} {YP : World → Heap → Prop} {d : DefRec} {K : Params → PySem.W.Frag} (hn : l.most = some 63) (hdf : d.params.defaults = [])
    (hY : ∀ (w : World) (h : Heap), YP w h → (K w.params).In h)
    (F : ∀ (w : World) (mg : Str → Option Value) (fa : Addr) (h : Heap), (K w.params).In h → h.Ns mainGlobals mg → mg d.name = some (.ref fa) →
      ∃ fd : FuncData, (∀ (s : Shared) (u : Value), BindsTo s fd ⟨[u], []⟩ [("script", u)]) ∧ ∀ base : Heap, (K w.params).In base → base.Ns mainGlobals mg → FnOk l.prog w (K w.params) mg base (L2.CX l.prog w) 40 fa fd ["script"] (rawSp (K w.params))) :
    PySem.W.WalkO q loose XP YP l.row.toRowW d [] (fun f vs => PySem.call f vs) :=
  L2.walk_of (n := 63) (k := 40) (x := "script") (CX := fun w => L2.CX l.prog w) (sp := fun w => rawSp (K w.params)) hn (by decide) hdf ⟨rfl, by decide, by decide⟩ hY F
    (fun w H a ns hl hO hS => ⟨a, ns, rfl, hO, hS, fun v H' h => h⟩) fun w H s e s' z => by obtain ⟨_, _, _, _, _, _, _, _, _, _, _, _, z⟩ := z; exact z
end PV
open PySem PySem.W PyProof.Rows
set_option maxRecDepth 100000 in
set_option maxHeartbeats 0 in
theorem PySem.Challenge.cw_papervault_k01_what_is_a_thing_holds : PySem.Challenge.rw_papervault_k01_what_is_a_thing.Holds := by
  w_on; o_law; k_head; (case hw => w_witness2)
  k_fill
  refine PV.walk (l := PySem.Challenge.rw_papervault_k01_what_is_a_thing) rfl rfl (fun w h Y => PySem.W.kIn_of Y) ?F
  case F =>
    intro w mg fa h KX G hmg
    refine' PV.all_mk KX G hmg ?n20 ?l20 ?c20 ?k20 ?n21 ?l21 ?c21 ?k21 ?n22 ?l22 ?c22 ?k22 ?n29 ?l29 ?c29 ?k29 ?n9 ?l9 ?c9 ?k9 ?n10 ?l10 ?c10 ?k10 ?n3 ?l3 ?c3 ?k3 ?n4 ?l4 ?c4 ?k4 ?n5 ?l5 ?c5 ?k5 ?n6 ?l6 ?c6 ?k6 ?n24 ?l24 ?c24 ?k24 ?n25 ?l25 ?c25 ?k25 ?n23 ?l23 ?c23 ?k23 ?n30 ?l30 ?c30 ?k30 ?n27 ?l27 ?c27 ?k27 ?n28 ?l28 ?c28 ?k28 ?n26 ?l26 ?c26 ?k26 ?n31 ?l31 ?c31 ?k31 ?z_abs ?z_bool ?z_int ?z_isinstance ?z_len ?z_list ?z_max ?z_min ?z_ord ?z_range ?z_str ?z_tuple ?y_DEEPEST ?x_DEEPEST ?y_MOST_NUMBER ?x_MOST_NUMBER ?y_MOST_SIGNS ?x_MOST_SIGNS ?y_MOST_THINGS ?x_MOST_THINGS ?en_NoThing ?ef_NoThing ?eo_NoThing ?es_NoThing
    (case en_NoThing => k_is)
    (case n20 => k_is)
    (case l20 => k_is)
    (case c20 => k_is)
    (case k20 => k_is)
    (case n21 => k_is)
    (case l21 => k_is)
    (case c21 => k_is)
    (case k21 => k_is)
    (case n22 => k_is)
    (case l22 => k_is)
    (case c22 => k_is)
    (case k22 => k_is)
    (case n29 => k_is)
    (case l29 => k_is)
    (case c29 => k_is)
    (case k29 => k_is)
    (case n9 => k_is)
    (case l9 => k_is)
    (case c9 => k_is)
    (case k9 => k_is)
    (case n10 => k_is)
    (case l10 => k_is)
    (case c10 => k_is)
    (case k10 => k_is)
    (case n3 => k_is)
    (case l3 => k_is)
    (case c3 => k_is)
    (case k3 => k_is)
    (case n4 => k_is)
    (case l4 => k_is)
    (case c4 => k_is)
    (case k4 => k_is)
    (case n5 => k_is)
    (case l5 => k_is)
    (case c5 => k_is)
    (case k5 => k_is)
    (case n6 => k_is)
    (case l6 => k_is)
    (case c6 => k_is)
    (case k6 => k_is)
    (case n24 => k_is)
    (case l24 => k_is)
    (case c24 => k_is)
    (case k24 => k_is)
    (case n25 => k_is)
    (case l25 => k_is)
    (case c25 => k_is)
    (case k25 => k_is)
    (case n23 => k_is)
    (case l23 => k_is)
    (case c23 => k_is)
    (case k23 => k_is)
    (case n30 => k_is)
    (case l30 => k_is)
    (case c30 => k_is)
    (case k30 => k_is)
    (case n27 => k_is)
    (case l27 => k_is)
    (case c27 => k_is)
    (case k27 => k_is)
    (case n28 => k_is)
    (case l28 => k_is)
    (case c28 => k_is)
    (case k28 => k_is)
    (case n26 => k_is)
    (case l26 => k_is)
    (case c26 => k_is)
    (case k26 => k_is)
    (case n31 => k_is)
    (case l31 => k_is)
    (case c31 => k_is)
    (case k31 => k_is)
    (case z_abs => k_is)
    (case z_bool => k_is)
    (case z_int => k_is)
    (case z_isinstance => k_is)
    (case z_len => k_is)
    (case z_list => k_is)
    (case z_max => k_is)
    (case z_min => k_is)
    (case z_ord => k_is)
    (case z_range => k_is)
    (case z_str => k_is)
    (case z_tuple => k_is)
    (case y_DEEPEST => k_is)
    (case x_DEEPEST => first | rfl | exact ⟨_, rfl⟩)
    (case y_MOST_NUMBER => k_is)
    (case x_MOST_NUMBER => first | rfl | exact ⟨_, rfl⟩)
    (case y_MOST_SIGNS => k_is)
    (case x_MOST_SIGNS => first | rfl | exact ⟨_, rfl⟩)
    (case y_MOST_THINGS => k_is)
    (case x_MOST_THINGS => first | rfl | exact ⟨_, rfl⟩)
    (case ef_NoThing => exact ⟨by k_is, by k_is, by k_is, by k_is, by k_is, by k_is, by k_is, by k_is, by k_is, by k_is, by k_is, by k_is, by k_is, by k_is, by k_is, by k_is, by k_is, by k_is, by k_is⟩)
    (case eo_NoThing => k_exc)
    (case es_NoThing => exact by k_is)
