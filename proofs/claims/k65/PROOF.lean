import PyProof.Rows.All
import Wide.All
import OpenK.AllK
import Wide.FinOn
import HandS.ForMost
import HandS.Dict
import KE.KDictKeyed
import KE.KeyNested
import HandS.ForExc
import KE.DatumOrd
import HandS.Small
import HandS.Wide
import HandS.WideBits
import HandS.TupAny
import HandS.TupMul
import HandS.Style
import KE.DataEq
import PyProof.StrOps2
import HandS.IsInst
import HandS.Conv
import HandS.ExcOwn
import HandS.WordsExc
import HandS.Zip
import HandS.Rev
import HandS.NoneIn
import HandS.ExcField
import HandS.ExcInit
import HandS.ClsMeth
import HandS.TryMany
import HandS.SortInts
import HandS.Text
import HandS.Codes
import KE.KExcIs
import KE.KTryMore
import KE.IntTextText
import HandS.StrMore
import PyProof.StrLawsFrom
import HandS.More
import KE.GoesRaise
import KE.GoesMore
import HandS.RaiseMore
import PySem.Challenge.RW_papervault_k65_words_and_values
set_option Elab.async false
set_option linter.all false
set_option maxRecDepth 100000
set_option maxHeartbeats 4000000
/-! Dicts whose keys are things of any kind: what stands in the heap, looked up, put, taken out. -/
namespace PV
open PySem L2 PyProof.Rows
/-- a value that is this key -/
def KyIs (h : Heap) (k : NestedKey) (v : Value) : Prop := NestedIs h k v ∧ k.depth ≤ 8
/-- the keys by their entries -/
def KysAt (w : World) (h : Heap) (ks : List NestedKey) (es : List DictEntry) : Prop := Paired (fun k e => e.hash = k.hash w ∧ KyIs h k e.key) ks es
theorem paired_at {α β : Type} {F : α → β → Prop} : ∀ {l : List α} {m : List β} {i : Nat} {y : β}, Paired F l m → m[i]? = some y → ∃ x, l[i]? = some x ∧ F x y
  | _, _, _, _, .nil, h => by simp at h
  | _, _, 0, _, .cons r _, h => by simp at h; subst h; exact ⟨_, rfl, r⟩
  | _, _, i + 1, _, .cons _ t, h => by simpa using paired_at t (by simpa using h)
theorem paired_at' {α β : Type} {F : α → β → Prop} : ∀ {l : List α} {m : List β} {i : Nat} {x : α}, Paired F l m → l[i]? = some x → ∃ y, m[i]? = some y ∧ F x y
  | _, _, _, _, .nil, h => by simp at h
  | _, _, 0, _, .cons r _, h => by simp at h; subst h; exact ⟨_, rfl, r⟩
  | _, _, i + 1, _, .cons _ t, h => by simpa using paired_at' t (by simpa using h)
theorem paired_len {α β : Type} {F : α → β → Prop} : ∀ {l : List α} {m : List β}, Paired F l m → l.length = m.length
  | _, _, .nil => rfl
  | _, _, .cons _ t => by simp [paired_len t]
/-- the places that are looked at -/
abbrev plcs (w : World) (es : Array DictEntry) (k : NestedKey) : List Nat := placesWithHash es.size (fun i => es[i]?.map (·.hash)) (k.hash w)
theorem plcs_mem {w : World} {es : Array DictEntry} {k : NestedKey} {i : Nat} : i ∈ plcs w es k ↔ ∃ e, es[i]? = some e ∧ e.hash = k.hash w := by
  unfold plcs placesWithHash
  rw [List.mem_filter, List.mem_range]
  constructor
  · rintro ⟨h1, h2⟩
    refine ⟨es[i], Array.getElem?_eq_getElem h1, ?_⟩
    dsimp only at h2
    rw [Array.getElem?_eq_getElem h1] at h2
    simpa using h2
  · rintro ⟨e, h1, h2⟩
    refine ⟨(Array.getElem?_eq_some_iff.mp h1).1, ?_⟩
    dsimp only
    rw [h1]
    simp [h2]
theorem plcs_nodup {w : World} {es : Array DictEntry} {k : NestedKey} : (plcs w es k).Nodup := by
  unfold plcs placesWithHash
  exact List.Pairwise.filter _ List.nodup_range
section
variable {prog : Program} {w : World} {A : Around} {E : Value → Shared → Prop} {s : Shared} {d : Addr} {o : Obj} {es : Array DictEntry} {ep : Nat} {k : NestedKey} {u : Value} {ks : List NestedKey}
theorem ky_eq {x y : NestedKey} {a b : Value} {Q : Bool → Shared → Prop} (hu : A.units + 8 < cLine) (hx : KyIs s.heap x a) (hy : KyIs s.heap y b) (h : Q (decide (x = y)) s) : wpAny (model prog w) A (eqBool a b) Q E s := by
  have : min x.depth y.depth ≤ x.depth := Nat.min_le_left _ _
  have hd := hx.2
  exact eqAt_key x y A s a b hx.1 hy.1 (by omega) prog w E Q (by rw [← NestedKey.decide_eq]; exact h)
theorem ky_quiet {x : NestedKey} {a : Value} {Q : Bool → Shared → Prop} (hx : KyIs s.heap x a) (h : Q true s) : wpAny (model prog w) A (eqIsQuiet 8 a) Q E s := quiet_key x a 8 s hx.1 hx.2 A E Q h
theorem ky_tells {st : List Value} {Q : Bool → Shared → Prop} (hk : KyIs s.heap k u) (hst : ∀ v ∈ st, ∃ k', KyIs s.heap k' v) (h : Q false s) : wpAny (model prog w) A (tableMayTell u st) Q E s := by
  unfold tableMayTell
  split
  · exact wpAny_pure h
  · refine wpAny_bind (ky_quiet hk (wpAny_bind ?_))
    refine wpAny_forIn_list _ (fun rest r s' => s' = s ∧ r = (none, ()) ∧ ∀ v ∈ rest, ∃ k', KyIs s.heap k' v) _ ?_ ?_ _ _ ⟨rfl, rfl, hst⟩
    · rintro v rest r _ ⟨rfl, rfl, q⟩
      obtain ⟨k', hv⟩ := q v (List.mem_cons_self ..)
      exact wpAny_bind (ky_quiet hv (wpAny_pure ⟨rfl, rfl, fun z hz => q z (List.mem_cons_of_mem _ hz)⟩))
    · rintro r _ ⟨rfl, rfl, _⟩
      exact wpAny_pure h
/-- where the key stands, among the places gone through -/
def Seen (ks : List NestedKey) (k : NestedKey) (pre : List Nat) (hit : Option Nat) : Prop := (hit = none ∧ ∀ i ∈ pre, ks[i]? ≠ some k) ∨ ∃ j, hit = some j ∧ j ∈ pre ∧ ks[j]? = some k
theorem ks_uniq (hn : ks.Nodup) {i j : Nat} (hi : ks[i]? = some k) (hj : ks[j]? = some k) : i = j := (List.getElem?_inj (List.getElem?_eq_some_iff.mp hi).1 hn).mp (hi.trans hj.symm)
theorem no_key {Q : Prop} (hp : KysAt w s.heap ks es.toList) (hno : ∀ i ∈ plcs w es k, ks[i]? ≠ some k) : k ∉ ks := fun hm => by
  obtain ⟨i, hi, e⟩ := List.mem_iff_getElem.mp hm
  have hi' : ks[i]? = some k := by rw [List.getElem?_eq_getElem hi, e]
  obtain ⟨en, he, h1, _⟩ := paired_at' hp hi'
  exact hno i (plcs_mem.mpr ⟨en, by rw [← Array.getElem?_toList]; exact he, h1⟩) hi'
theorem ky_shape {h : Heap} (hk : KyIs h k u) : (∃ x t, u = .str x t) ∨ (∃ a, u = .ref a) ∨ u = .none ∨ (∃ b, u = .bool b) ∨ ∃ i t, u = .int i t := by
  have hk1 := hk.1
  cases hk1 with
  | none => exact .inr (.inr (.inl rfl))
  | bool _ => exact .inr (.inr (.inr (.inl ⟨_, rfl⟩)))
  | int i t => exact .inr (.inr (.inr (.inr ⟨i, t, rfl⟩)))
  | text x t => exact .inl ⟨x, t, rfl⟩
  | tup _ _ _ _ => exact .inr (.inl ⟨_, rfl⟩)
theorem ky_find {Q : Option Nat → Shared → Prop} (hu : A.units + 8 < cLine) (hk : KyIs s.heap k u) (ho : s.heap.get? d = some o) (hd : o.data = .dict es ep) (hp : KysAt w s.heap ks es.toList) (hn : ks.Nodup)
    (hnone : k ∉ ks → Q none s) (hsome : ∀ j, ks[j]? = some k → Q (some j) s) : wpAny (model prog w) A (dictFind d u (k.hash w)) Q E s := by
  have at_ : ∀ {i : Nat} {e : DictEntry}, es[i]? = some e → ∃ k', ks[i]? = some k' ∧ e.hash = k'.hash w ∧ KyIs s.heap k' e.key := fun h => paired_at hp (by rw [Array.getElem?_toList]; exact h)
  have hst : ∀ v ∈ (plcs w es k).filterMap (fun i => es[i]?.map (·.key)), ∃ k', KyIs s.heap k' v := fun v hv => by
    obtain ⟨i, _, hi⟩ := List.mem_filterMap.mp hv
    cases he : es[i]? with
    | none => rw [he] at hi; cases hi
    | some e =>
      rw [he] at hi
      obtain rfl : e.key = v := by simpa using hi
      obtain ⟨k', _, _, h3⟩ := at_ he
      exact ⟨k', h3⟩
  have plain : wpAny (model prog w) A (dictWalkPlain d u (k.hash w) es (plcs w es k)) Q E s := by
    unfold dictWalkPlain
    refine wpAny_bind ?_
    refine wpAny_forIn_list _ (fun rest b s' => s' = s ∧ b = (none, ()) ∧ ∃ pre, plcs w es k = pre ++ rest ∧ ∀ i ∈ pre, ks[i]? ≠ some k) _ ?_ ?_ _ _ ⟨rfl, rfl, [], rfl, fun _ h => nomatch h⟩
    · rintro i rest b _ ⟨rfl, rfl, pre, hpre, hno⟩
      obtain ⟨e, he, hh⟩ := plcs_mem.mp (show i ∈ plcs w es k by rw [hpre]; simp)
      obtain ⟨k', hk', _, hke⟩ := at_ he
      rw [he]
      dsimp only
      rw [if_pos (by rw [hh]; exact beq_self_eq_true _)]
      refine wpAny_bind (wpAny_dictEpoch ho hd (wpAny_bind (ky_eq hu hke hk (wpAny_bind (wpAny_dictEpoch ho hd ?_)))))
      rw [if_neg (by simp)]
      by_cases e1 : k' = k
      · subst e1
        rw [decide_eq_true rfl]
        exact wpAny_bind (wpAny_rule (wpAny_pure (wpAny_pure (hsome i hk'))))
      · rw [decide_eq_false e1]
        refine wpAny_bind (wpAny_rule (wpAny_pure ⟨rfl, rfl, pre ++ [i], by rw [hpre]; simp, fun j hj => ?_⟩))
        rcases List.mem_append.mp hj with hj | hj
        · exact hno j hj
        · rw [List.mem_singleton.mp hj, hk']
          exact fun z => e1 (Option.some.inj z)
    · rintro b _ ⟨rfl, rfl, pre, hpre, hno⟩
      rw [List.append_nil] at hpre
      exact wpAny_pure (hnone (no_key (Q := True) hp (by rw [hpre]; exact hno)))
  unfold dictFind
  refine wpAny_holding (wpAny_bind (wpAny_dictEntries ho hd ?_))
  rcases ky_shape hk with ⟨x, t, rfl⟩ | ⟨a, rfl⟩ | rfl | ⟨b, rfl⟩ | ⟨i, t, rfl⟩
  case' inl =>
    dsimp only
    by_cases hs : (es.all fun e => isExactStrKey e.key) = true
    · rw [if_pos hs]
      have ek : k = .text x := NestedIs.inj _ _ _ hk.1 (.text x t)
      unfold foundByValue
      cases hf : es.findIdx? (fun e => e.key.isStr x) with
      | none =>
        dsimp only
        refine wpAny_bind (wpAny_pure (wpAny_pure (hnone fun hm => ?_)))
        obtain ⟨j, hj, e⟩ := List.mem_iff_getElem.mp hm
        obtain ⟨en, he, _, h3⟩ := paired_at' hp (show ks[j]? = some k by rw [List.getElem?_eq_getElem hj, e])
        have h4 := h3.1
        rw [ek] at h4
        have hno := Array.findIdx?_eq_none_iff.mp hf en (Array.mem_of_getElem? (by rw [← Array.getElem?_toList]; exact he))
        generalize en.key = v at h4 hno
        cases h4
        simp [Value.isStr] at hno
      | some i =>
        dsimp only
        obtain ⟨hlt, hi, _⟩ := Array.findIdx?_eq_some_iff_getElem.mp hf
        have he := Array.getElem?_eq_getElem hlt
        obtain ⟨k', hk', _, hke⟩ := at_ he
        rw [he]
        dsimp only
        have e1 : k' = k := by
          have h4 := hke.1
          generalize es[i].key = v at h4 hi
          cases h4 with
          | text y t' =>
            rw [ek]
            simp [Value.isStr] at hi
            rw [hi]
          | _ => simp [Value.isStr] at hi
        refine wpAny_bind (wpAny_dictEpoch ho hd (wpAny_bind (ky_eq hu hke hk (wpAny_bind (wpAny_dictEpoch ho hd ?_)))))
        rw [if_neg (by simp), decide_eq_true e1]
        exact wpAny_bind (wpAny_rule (wpAny_pure (hsome i (e1 ▸ hk'))))
    rw [if_neg hs]
  all_goals (try dsimp only)
  all_goals (refine wpAny_ite_split (fun _ => plain) (fun _ => ?_))
  case' inr.inl =>
    rw [if_neg (by
      rw [← Array.any_toList, List.any_eq_true]
      rintro ⟨e, hin, hc⟩
      rw [Bool.and_eq_true, beq_iff_eq, bne_iff_ne] at hc
      obtain ⟨j, hj⟩ := List.mem_iff_getElem?.mp hin
      obtain ⟨k', _, h2, h3⟩ := paired_at hp hj
      rw [hc.1] at h3
      exact hc.2 (by rw [h2, NestedIs.inj _ _ _ h3.1 hk.1]))]
  all_goals
    refine wpAny_ite_split (fun _ => wpAny_bind (wpAny_pure ?_)) (fun _ => wpAny_bind (ky_tells hk hst ?_))
  all_goals
    rw [if_neg (by simp)]
    refine wpAny_bind ?_
    refine wpAny_forIn_list _ (fun rest b s' => s' = s ∧ ∃ hit pre, b = (none, hit) ∧ plcs w es k = pre ++ rest ∧ Seen ks k pre hit) _ ?_ ?_ _ _ ⟨rfl, none, [], rfl, rfl, .inl ⟨rfl, fun _ h => nomatch h⟩⟩
    · rintro i rest b _ ⟨rfl, hit, pre, rfl, hpre, hseen⟩
      obtain ⟨e, he, hh⟩ := plcs_mem.mp (show i ∈ plcs w es k by rw [hpre]; simp)
      obtain ⟨k', hk', _, hke⟩ := at_ he
      rw [he]
      dsimp only
      rw [if_pos (by rw [hh]; exact beq_self_eq_true _)]
      refine wpAny_bind (wpAny_dictEpoch ho hd (wpAny_bind (ky_eq hu hke hk (wpAny_bind (wpAny_dictEpoch ho hd ?_)))))
      rw [if_neg (by simp)]
      by_cases e1 : k' = k
      · subst e1
        rw [decide_eq_true rfl]
        rcases hseen with ⟨rfl, hno⟩ | ⟨j, rfl, hj, hj2⟩
        · refine wpAny_bind (wpAny_rule ?_)
          refine wpAny_ite_split (fun _ => wpAny_pure (wpAny_pure (hsome i hk'))) (fun _ => wpAny_pure ⟨rfl, some i, pre ++ [i], rfl, by rw [hpre]; simp, .inr ⟨i, rfl, by simp, hk'⟩⟩)
        · exfalso
          have := ks_uniq hn hj2 hk'
          subst this
          have hnd := plcs_nodup (w := w) (es := es) (k := k')
          rw [hpre, List.nodup_append] at hnd
          exact hnd.2.2 j hj j (by simp) rfl
      · rw [decide_eq_false e1]
        have hs2 : Seen ks k (pre ++ [i]) hit := by
          rcases hseen with ⟨rfl, hno⟩ | ⟨j, rfl, hj, hj2⟩
          · refine .inl ⟨rfl, fun j hj => ?_⟩
            rcases List.mem_append.mp hj with hj | hj
            · exact hno j hj
            · rw [List.mem_singleton.mp hj, hk']
              exact fun z => e1 (Option.some.inj z)
          · exact .inr ⟨j, rfl, List.mem_append_left _ hj, hj2⟩
        refine wpAny_bind (wpAny_rule ?_)
        first
          | exact wpAny_pure ⟨rfl, hit, pre ++ [i], rfl, by rw [hpre]; simp, hs2⟩
          | (rw [if_neg (by simp)]; exact wpAny_pure ⟨rfl, hit, pre ++ [i], rfl, by rw [hpre]; simp, hs2⟩)
    · rintro b _ ⟨rfl, hit, pre, rfl, hpre, hseen⟩
      rw [List.append_nil] at hpre
      rcases hseen with ⟨rfl, hno⟩ | ⟨j, rfl, hj, hj2⟩
      · exact wpAny_pure (hnone (no_key (Q := True) hp (by rw [hpre]; exact hno)))
      · exact wpAny_pure (hsome j hj2)
end
/-! ### what stands in such a dict -/
abbrev XEn := NestedKey × V × V
def EnR (w : World) (x : XEn) (e : DictEntry) : Prop := e.hash = x.1.hash w ∧ RelV x.2.1 e.key ∧ RelV x.2.2 e.val
def DxAt (w : World) (a : Addr) (xs : List XEn) (h : Heap) : Prop := xs.length ≤ sizeLine ∧ (a == sysModules) = false ∧ ∃ o es ep, h.get? a = some o ∧ o.ExactDict ∧ o.data = .dict es ep ∧ Paired (EnR w) xs es.toList
/-- the thing that is tracked -/
def dxH (w : World) (a : Addr) (xs : List XEn) : HO := .ext (DxAt w a xs)
theorem dx_ok {P : Program} {w w' : World} {H : Hp} {h : Heap} {a : Addr} {xs : List XEn} : ObjOk P w' H h a (dxH w a xs) ↔ DxAt w a xs h := by
  constructor
  · exact fun z => z.1
  · intro z
    refine ⟨z, ?_, ?_⟩
    · obtain ⟨_, _, o, _, _, ho, _⟩ := z
      exact ⟨o, ho⟩
    · rintro h1 h2 ⟨z1, z2, o, es, ep, ho, hr⟩ hk
      exact ⟨z1, z2, o, es, ep, hk _ ho, hr⟩
def valX (xs : List XEn) (k : NestedKey) : Option V := (xs.find? fun x => decide (x.1 = k)).map (·.2.2)
theorem valX_at : ∀ {xs : List XEn} {k : NestedKey} {j : Nat} {x : XEn}, (xs.map (·.1)).Nodup → xs[j]? = some x → x.1 = k → valX xs k = some x.2.2
  | [], _, _, _, _, h, _ => by simp at h
  | y :: ys, k, 0, x, _, h, e => by
    simp at h; subst h
    simp [valX, List.find?_cons, e]
  | y :: ys, k, j + 1, x, hn, h, e => by
    rw [List.map_cons, List.nodup_cons] at hn
    have h' : ys[j]? = some x := by simpa using h
    have ne : ¬ y.1 = k := fun z => hn.1 (by rw [z, ← e]; exact List.mem_map_of_mem (List.mem_of_getElem? h'))
    have := valX_at hn.2 h' e
    simpa [valX, List.find?_cons, ne] using this
theorem valX_no {xs : List XEn} {k : NestedKey} (h : k ∉ xs.map (·.1)) : valX xs k = none := by
  unfold valX
  rw [List.find?_eq_none.mpr fun x hx hk => h (by rw [← of_decide_eq_true hk]; exact List.mem_map_of_mem hx)]
  rfl
open Classical in
def putX (xs : List XEn) (k : NestedKey) (x y : V) : List XEn := if k ∈ xs.map (·.1) then xs.map fun e => if e.1 = k then (e.1, e.2.1, y) else e else xs ++ [(k, x, y)]
theorem paired_snoc {α β : Type} {F : α → β → Prop} {a : α} {b : β} (q : F a b) : ∀ {l : List α} {m : List β}, Paired F l m → Paired F (l ++ [a]) (m ++ [b])
  | _, _, .nil => .cons q .nil
  | _, _, .cons r t => .cons r (paired_snoc q t)
theorem paired_mod {w : World} {k : NestedKey} {y : V} {u : Value} (ry : RelV y u) : ∀ {xs : List XEn} {es : List DictEntry} {j : Nat}, (xs.map (·.1)).Nodup → (xs.map (·.1))[j]? = some k → Paired (EnR w) xs es →
    Paired (EnR w) (xs.map fun e => if e.1 = k then (e.1, e.2.1, y) else e) (es.modify j fun e => { e with val := u })
  | _, _, _, _, h, .nil => by simp at h
  | x :: xs, e :: es, 0, hn, h, .cons r t => by
    simp at h
    rw [List.map_cons, List.nodup_cons] at hn
    have e0 : (xs.map fun e => if e.1 = k then (e.1, e.2.1, y) else e) = xs := by
      conv => rhs; rw [← List.map_id xs]
      refine List.map_congr_left fun z hz => if_neg fun q => hn.1 ?_
      rw [h, ← q]
      exact List.mem_map_of_mem hz
    rw [List.map_cons, e0, if_pos h]
    exact .cons ⟨r.1, r.2.1, ry⟩ t
  | x :: xs, e :: es, j + 1, hn, h, .cons r t => by
    rw [List.map_cons, List.nodup_cons] at hn
    have h' : (xs.map (·.1))[j]? = some k := by simpa using h
    have ne : ¬ x.1 = k := fun q => hn.1 (by rw [q]; exact List.mem_of_getElem? h')
    rw [List.map_cons, if_neg ne]
    exact .cons r (paired_mod ry hn.2 h' t)
section
variable {prog : Program} {w : World} {A : Around} {E : Value → Shared → Prop} {s : Shared} {d : Addr} {k : NestedKey} {u : Value} {xs : List XEn}
theorem dx_kys {es : List DictEntry} (hp : Paired (EnR w) xs es) (hK : ∀ x ∈ xs, ∀ v, RelV x.2.1 v → KyIs s.heap x.1 v) : KysAt w s.heap (xs.map (·.1)) es := by
  unfold KysAt
  induction hp with
  | nil => exact .nil
  | cons r t ih => exact .cons ⟨r.1, hK _ (List.mem_cons_self ..) _ r.2.1⟩ (ih fun x hx => hK x (List.mem_cons_of_mem _ hx))
theorem ky_hash {Q : Int → Shared → Prop} (hu : A.units + 8 < cLine) (hk : KyIs s.heap k u) (h : Q (k.hash w) { s with toks := s.toks + k.draws }) : wpAny (model prog w) A (pyHash u) Q E s :=
  pyHash_key k u A s Q hk.1 (by have := hk.2; omega) h
theorem dx_get {Q : Option Value → Shared → Prop} (hu : A.units + 8 < cLine) (hk : KyIs s.heap k u) (hm : DxAt w d xs s.heap) (hK : ∀ x ∈ xs, ∀ v, RelV x.2.1 v → KyIs s.heap x.1 v) (hn : (xs.map (·.1)).Nodup)
    (h : ∀ r, RelO (valX xs k) r → Q r { s with toks := s.toks + k.draws }) : wpAny (model prog w) A (dictGet d u) Q E s := by
  obtain ⟨_, _, o, es, ep, ho, _, hd, hp⟩ := hm
  unfold dictGet
  refine wpAny_holding (wpAny_bind (ky_hash hu hk (wpAny_bind ?_)))
  refine ky_find (s := { s with toks := s.toks + k.draws }) hu hk ho hd (dx_kys (s := s) hp hK) hn (fun hno => ?_) (fun j hj => ?_)
  · exact wpAny_pure (h none (by rw [valX_no hno]; exact True.intro))
  · rw [List.getElem?_map] at hj
    obtain ⟨x, hx, e⟩ := Option.map_eq_some_iff.mp hj
    obtain ⟨en, he, r⟩ := paired_at' hp hx
    refine wpAny_bind (wpAny_dictEntries (s := { s with toks := s.toks + k.draws }) ho hd (wpAny_pure (h _ ?_)))
    rw [valX_at hn hx e]
    rw [Array.getElem?_toList] at he
    rw [he]
    exact r.2.2
theorem dx_set {x y : V} {z : Value} {Q : Unit → Shared → Prop} (hu : A.units + 8 < cLine) (hk : KyIs s.heap k u) (hm : DxAt w d xs s.heap) (hK : ∀ x ∈ xs, ∀ v, RelV x.2.1 v → KyIs s.heap x.1 v) (hn : (xs.map (·.1)).Nodup) (hl : xs.length < sizeLine)
    (rx : RelV x u) (ry : RelV y z) (h : ∀ h', DxAt w d (putX xs k x y) h' → Heap.SameBut d s.heap h' → Q () { s with heap := h', toks := s.toks + k.draws }) : wpAny (model prog w) A (dictSet d u z) Q E s := by
  obtain ⟨h1, h2, o, es, ep, ho, hc, hd, hp⟩ := hm
  have hsz : es.size = xs.length := by rw [← Array.length_toList]; exact (paired_len hp).symm
  unfold dictSet
  refine wpAny_holding (wpAny_bind (ky_hash hu hk ?_))
  unfold dictSetHashed
  refine wpAny_holding (wpAny_bind ?_)
  refine ky_find (s := { s with toks := s.toks + k.draws }) hu hk ho hd (dx_kys (s := s) hp hK) hn (fun hno => ?_) (fun j hj => ?_)
  · refine wpAny_bind (wpAny_rule (wpAny_updateDictKeys (hz := by omega) (s := { s with toks := s.toks + k.draws }) ho hd (h _ ?_ (Heap.SameBut.update ..))))
    unfold putX
    rw [if_neg hno]
    refine ⟨by rw [List.length_append]; exact hl, h2, _, _, _, Heap.get?_update_self _ ho (Obj.isFreed_of_dict (Obj.data_mapDictKeys hd _)), hc.mapDictKeys _, Obj.data_mapDictKeys hd _, ?_⟩
    rw [Array.toList_push]
    exact paired_snoc ⟨rfl, rx, ry⟩ hp
  · refine wpAny_bind (wpAny_rule (wpAny_bind (wpAny_updateDict (s := { s with toks := s.toks + k.draws }) ho hd (wpAny_point (h _ ?_ (Heap.SameBut.update ..))))))
    unfold putX
    rw [if_pos (List.mem_of_getElem? hj)]
    refine ⟨by rw [List.length_map]; exact h1, h2, _, _, _, Heap.get?_update_self _ ho (Obj.isFreed_of_dict (Obj.data_mapDict hd _)), hc.mapDict _, Obj.data_mapDict hd _, ?_⟩
    have := paired_mod (u := z) ry hn hj hp
    obtain ⟨l⟩ := es
    simpa using this
theorem dx_typeIs (hm : DxAt w d xs s.heap) : s.TypeIs (.ref d) "dict" := let ⟨_, _, o, _, _, ho, hc, _⟩ := hm; ⟨o, ho, hc.1⟩
end
/-! ### asked of it -/
section
variable {prog : Program} {w : World} {A : Around} {E : Value → Shared → Prop} {s : Shared} {d : Addr} {k : NestedKey} {u : Value} {xs : List XEn}
/-- what an asking stands on -/
structure DxOn (w : World) (A : Around) (s : Shared) (d : Addr) (xs : List XEn) (k : NestedKey) (u : Value) : Prop where
  rm : A.units + 16 < cLine
  ky : KyIs s.heap k u
  di : DxAt w d xs s.heap
  ks : ∀ x ∈ xs, ∀ v, RelV x.2.1 v → KyIs s.heap x.1 v
  nd : (xs.map (·.1)).Nodup
theorem DxOn.get1 {Q : Option Value → Shared → Prop} (O : DxOn w A s d xs k u) (h : ∀ r, RelO (valX xs k) r → Q r { s with toks := s.toks + k.draws }) : wpAny (model prog w) A.in1 (dictGet d u) Q E s :=
  dx_get (by have := O.rm; show A.units + 1 + 8 < cLine; omega) O.ky O.di O.ks O.nd h
theorem DxOn.sys (O : DxOn w A s d xs k u) : (d == sysModules) = false := O.di.2.1
theorem DxOn.has {Q : Bool → Shared → Prop} (O : DxOn w A s d xs k u) (h : Q (valX xs k).isSome { s with toks := s.toks + k.draws }) : wpAny (model prog w) A (contains (.ref d) u) Q E s := by
  refine wpAny_contains_slot (dx_typeIs O.di) F.slot_dict_contains ?_
  refine call_meetsIn F.slot_dict_contains (dx_typeIs O.di) F.entry_dict_contains (F.args_dict_contains_2 _ _) (S := fun B R z => B = A ∧ z = s ∧ R (.ok (.ret (.bool (valX xs k).isSome))) { s with toks := s.toks + k.draws }) (fun B R z hS => ?_) ⟨rfl, rfl, wpAny_truthy_bool h⟩
  obtain ⟨rfl, rfl, hq⟩ := hS
  show wpAny _ _ (dictGet d u >>= _) _ _ _
  refine wpAny_bind (O.get1 fun r rr => ?_)
  rw [rr.isSome_eq] at hq
  cases r with
  | some v => exact (show wpAny _ _ (ret (.bool true)) _ _ _ from wpAny_pure hq)
  | none => exact (show wpAny _ _ (Builtin.Dict.pendingKey? d u >>= _) _ _ _ from wpAny_bind (wpAny_pendingKey_other O.sys (wpAny_pure hq)))
theorem DxOn.in_ {Q : Value → Shared → Prop} (O : DxOn w A s d xs k u) (h : Q (.bool (valX xs k).isSome) { s with toks := s.toks + k.draws }) : wpAny (model prog w) A (compareOp .In u (.ref d)) Q E s :=
  (show wpAny _ _ (do return .bool (← contains (.ref d) u)) Q E s from wpAny_bind (O.has (wpAny_pure h)))
theorem DxOn.notIn {Q : Value → Shared → Prop} (O : DxOn w A s d xs k u) (h : Q (.bool (!(valX xs k).isSome)) { s with toks := s.toks + k.draws }) : wpAny (model prog w) A (compareOp .NotIn u (.ref d)) Q E s :=
  (show wpAny _ _ (do return .bool (!(← contains (.ref d) u))) Q E s from wpAny_bind (O.has (wpAny_pure h)))
theorem DxOn.item {Q : Value → Shared → Prop} {v : V} (O : DxOn w A s d xs k u) (hv : valX xs k = some v) (h : ∀ r, RelV v r → Q r { s with toks := s.toks + k.draws }) : wpAny (model prog w) A (getItem (.ref d) u) Q E s := by
  have ty := dx_typeIs O.di
  unfold getItem
  refine wpAny_holding (wpAny_bind (wpAny_sequenceKey ty (by decide) (wpAny_bind ?_)))
  refine wpAny_callSpecial?_slot (name := Str.ofString "__getitem__") ty slot_dict_getitem (wpAny_call_entry slot_dict_getitem ty entry_dict_getitem ?_ (args_dict_getitem _ u))
  show wpAny _ _ (dictGet d u >>= _) _ _ s
  refine wpAny_bind (O.get1 fun r rr => ?_)
  rw [hv] at rr
  obtain ⟨x, rfl, rx⟩ := rr.some_of
  exact wpAny_pure ⟨x, rfl, wpAny_pure (h x rx)⟩
theorem DxOn.put {Q : Unit → Shared → Prop} {x y : V} {z : Value} (O : DxOn w A s d xs k u) (hl : xs.length < sizeLine) (rx : RelV x u) (ry : RelV y z) (h : ∀ h', DxAt w d (putX xs k x y) h' → Heap.SameBut d s.heap h' → Q () { s with heap := h', toks := s.toks + k.draws }) :
    wpAny (model prog w) A (setItem (.ref d) u z) Q E s := by
  have ty := dx_typeIs O.di
  unfold setItem
  refine wpAny_holding (wpAny_bind (wpAny_sequenceKey ty (by decide) (wpAny_bind ?_)))
  refine wpAny_callSpecial?_slot (name := Str.ofString "__setitem__") ty slot_dict_setitem (wpAny_call_entry slot_dict_setitem ty entry_dict_setitem ?_ (args_dict_setitem _ u z))
  show wpAny _ _ (Builtin.Dict.notOrdered "__setitem__" ⟨[.ref d, u, z], []⟩ >>= _) _ _ s
  refine wpAny_bind (wpAny_notOrdered_dict ty ?_)
  show wpAny _ _ (dictSet d u z >>= _) _ _ s
  exact wpAny_bind (dx_set (by have := O.rm; show A.units + 1 + 8 < cLine; omega) O.ky O.di O.ks O.nd hl rx ry fun h' a b => wpAny_pure ⟨.none, rfl, wpAny_pure (h h' a b)⟩)
theorem DxOn.got {Q : Value → Shared → Prop} (O : DxOn w A s d xs k u) (h : ∀ r, RelO (valX xs k) r → Q (r.getD .none) { s with toks := s.toks + k.draws }) : wpAny (model prog w) A (call (.builtin "dict.get") [.ref d, u]) Q E s := by
  refine call_meetsIn F.slot_dict_get (dx_typeIs O.di) F.entry_dict_get (F.args_dict_get_2 _ u) (S := fun B R z => B = A ∧ z = s ∧ ∀ r, RelO (valX xs k) r → R (.ok (.ret (r.getD .none))) { s with toks := s.toks + k.draws }) (.of_wp fun B R z hS => ?_) ⟨rfl, rfl, fun r rr => h r rr⟩
  obtain ⟨rfl, rfl, hq⟩ := hS
  show wpAny _ _ (dictGet d u >>= _) _ _ _
  refine wpAny_bind (O.get1 fun r rr => ?_)
  have q := hq r rr
  cases r with
  | some v => exact wpAny_pure ⟨v, rfl, q⟩
  | none => exact (show wpAny _ _ (Builtin.Dict.missed d u >>= _) _ _ _ from wpAny_bind (wpAny_missed_other O.sys (wpAny_pure ⟨.none, rfl, q⟩)))
theorem DxOn.gotOr {Q : Value → Shared → Prop} {x : Value} (O : DxOn w A s d xs k u) (h : ∀ r, RelO (valX xs k) r → Q (r.getD x) { s with toks := s.toks + k.draws }) : wpAny (model prog w) A (call (.builtin "dict.get") [.ref d, u, x]) Q E s := by
  refine call_meetsIn F.slot_dict_get (dx_typeIs O.di) F.entry_dict_get (F.args_dict_get_3 _ u x) (S := fun B R z => B = A ∧ z = s ∧ ∀ r, RelO (valX xs k) r → R (.ok (.ret (r.getD x))) { s with toks := s.toks + k.draws }) (.of_wp fun B R z hS => ?_) ⟨rfl, rfl, fun r rr => h r rr⟩
  obtain ⟨rfl, rfl, hq⟩ := hS
  show wpAny _ _ (dictGet d u >>= _) _ _ _
  refine wpAny_bind (O.get1 fun r rr => ?_)
  have q := hq r rr
  cases r with
  | some v => exact wpAny_pure ⟨v, rfl, q⟩
  | none => exact (show wpAny _ _ (Builtin.Dict.missed d u >>= _) _ _ _ from wpAny_bind (wpAny_missed_other O.sys (wpAny_pure ⟨x, rfl, q⟩)))
end
end PV

/-! Data as values over the hand layer: D (trees; tuples are values), Mp (what may change), readings over both. -/
namespace PV
open PySem L2

/-- a value with all tuples within; lists, dicts, instances by their address -/
inductive D where
  | non | bl (b : Bool) | int (i : Int) | str (s : Str) | tup (l : List D) | ref (a : Addr) | ty (n : String)

mutual
def Rep (K : PySem.W.Frag) (H : Hp) : D → V → Prop
  | .non, v => v = .non
  | .bl b, v => v = .bl b
  | .int i, v => v = .int i
  | .str s, v => v = .str s
  | .tup l, v => ∃ a vs, v = .ref a ∧ SqT K H a vs ∧ Reps K H l vs
  | .ref a, v => v = .ref a
  | .ty n, v => v = .ty n
def Reps (K : PySem.W.Frag) (H : Hp) : List D → List V → Prop
  | [], vs => vs = []
  | d :: ds, vs => ∃ v r, vs = v :: r ∧ Rep K H d v ∧ Reps K H ds r
end

mutual
/-- a thing as a dict's key -/
def nk : D → NestedKey
  | .non => .none
  | .bl b => .num (if b then 1 else 0)
  | .int i => .num i
  | .str z => .text z
  | .tup l => .tup (nks l)
  | .ref _ => .none
  | .ty _ => .none
def nks : List D → List NestedKey
  | [] => []
  | d :: l => nk d :: nks l
end
/-- a dict's keys and values, told and tracked -/
def RepXs (K : PySem.W.Frag) (H : Hp) : List (D × D) → List XEn → Prop
  | [], r => r = []
  | (k, d) :: ds, r => ∃ x y r', r = (nk k, x, y) :: r' ∧ Rep K H k x ∧ Rep K H d y ∧ RepXs K H ds r'

/-- what never goes: tuples, what is locked -/
def Ext (H H' : Hp) : Prop := (∀ a xs, H a = some (.tup xs) → H' a = some (.tup xs)) ∧ (∀ a o u, H a = some (.frz o u) → H' a = some (.frz o u))
theorem Ext.refl (H : Hp) : Ext H H := ⟨fun _ _ h => h, fun _ _ _ h => h⟩
theorem Ext.trans {H H1 H2 : Hp} (a : Ext H H1) (b : Ext H1 H2) : Ext H H2 := ⟨fun c xs h => b.1 c xs (a.1 c xs h), fun c o u h => b.2 c o u (a.2 c o u h)⟩
theorem Ext.new {H : Hp} {p : Addr} {o : HO} (h : H p = none) : Ext H (upd H p o) :=
  ⟨fun a xs e => by rw [upd_ne (ne_of_none e h)]; exact e, fun a ob u e => by rw [upd_ne (ne_of_none e h)]; exact e⟩
theorem Ext.put {H : Hp} {p : Addr} {o u : HO} (h : H p = some u) (h1 : ∀ xs, u ≠ .tup xs) (h2 : ∀ ob v, u ≠ .frz ob v) : Ext H (upd H p o) :=
  ⟨fun a xs e => by rw [upd_ne (fun z => by rw [z, h] at e; exact h1 _ (Option.some.inj e))]; exact e,
   fun a ob v e => by rw [upd_ne (fun z => by rw [z, h] at e; exact h2 _ _ (Option.some.inj e))]; exact e⟩
theorem Ext.sqT {K : PySem.W.Frag} {H H' : Hp} {a : Addr} {xs : List V} (e : Ext H H') (h : SqT K H a xs) : SqT K H' a xs := by
  rcases h with (h | ⟨o, h⟩) | h
  · exact .inl (.inl (e.1 _ _ h))
  · exact .inl (.inr ⟨o, e.2 _ _ _ h⟩)
  · exact .inr h

mutual
theorem Rep.mono {K : PySem.W.Frag} {H H' : Hp} (e : Ext H H') : ∀ {d : D} {v : V}, Rep K H d v → Rep K H' d v
  | .non, _, h => h
  | .bl _, _, h => h
  | .int _, _, h => h
  | .str _, _, h => h
  | .tup l, _, h => by
    obtain ⟨a, vs, e1, e2, e3⟩ := h
    exact ⟨a, vs, e1, e.sqT e2, Reps.mono e e3⟩
  | .ref _, _, h => h
  | .ty _, _, h => h
theorem Reps.mono {K : PySem.W.Frag} {H H' : Hp} (e : Ext H H') : ∀ {ds : List D} {vs : List V}, Reps K H ds vs → Reps K H' ds vs
  | [], _, h => h
  | d :: ds, _, h => by
    obtain ⟨v, r, e1, e2, e3⟩ := h
    exact ⟨v, r, e1, Rep.mono e e2, Reps.mono e e3⟩
end
theorem Reps.length {K : PySem.W.Frag} {H : Hp} : ∀ {ds : List D} {vs : List V}, Reps K H ds vs → ds.length = vs.length
  | [], _, h => by cases h; rfl
  | d :: ds, _, h => by
    obtain ⟨v, r, rfl, _, h3⟩ := h
    simp [Reps.length h3]
theorem Reps.get {K : PySem.W.Frag} {H : Hp} : ∀ {ds : List D} {vs : List V} {i : Nat} {d : D}, Reps K H ds vs → ds[i]? = some d → ∃ v, vs[i]? = some v ∧ Rep K H d v
  | [], _, _, _, _, e => by simp at e
  | d :: ds, _, 0, _, h, e => by
    obtain ⟨v, r, rfl, h2, _⟩ := h
    simp at e; subst e
    exact ⟨v, rfl, h2⟩
  | d :: ds, _, i + 1, _, h, e => by
    obtain ⟨v, r, rfl, _, h3⟩ := h
    simpa using Reps.get h3 (by simpa using e)
theorem Reps.getV {K : PySem.W.Frag} {H : Hp} : ∀ {ds : List D} {vs : List V} {i : Nat} {v : V}, Reps K H ds vs → vs[i]? = some v → ∃ d, ds[i]? = some d ∧ Rep K H d v
  | [], _, _, _, h, e => by cases h; simp at e
  | d :: ds, _, 0, _, h, e => by
    obtain ⟨v, r, rfl, h2, _⟩ := h
    simp at e; subst e
    exact ⟨d, rfl, h2⟩
  | d :: ds, _, i + 1, _, h, e => by
    obtain ⟨v, r, rfl, _, h3⟩ := h
    simpa using Reps.getV h3 (by simpa using e)
theorem Reps.append {K : PySem.W.Frag} {H : Hp} : ∀ {ds es : List D} {vs ws : List V}, Reps K H ds vs → Reps K H es ws → Reps K H (ds ++ es) (vs ++ ws)
  | [], _, _, _, h, q => by cases h; exact q
  | d :: ds, _, _, _, h, q => by
    obtain ⟨v, r, rfl, h2, h3⟩ := h
    exact ⟨v, r ++ _, rfl, h2, Reps.append h3 q⟩
theorem Reps.take {K : PySem.W.Frag} {H : Hp} : ∀ {ds : List D} {vs : List V} (n : Nat), Reps K H ds vs → Reps K H (ds.take n) (vs.take n)
  | _, _, 0, _ => rfl
  | [], _, n + 1, h => by cases h; rfl
  | d :: ds, _, n + 1, h => by
    obtain ⟨v, r, rfl, h2, h3⟩ := h
    exact ⟨v, r.take n, rfl, h2, Reps.take n h3⟩
theorem Reps.drop {K : PySem.W.Frag} {H : Hp} : ∀ {ds : List D} {vs : List V} (n : Nat), Reps K H ds vs → Reps K H (ds.drop n) (vs.drop n)
  | _, _, 0, h => h
  | [], _, n + 1, h => by cases h; rfl
  | d :: ds, _, n + 1, h => by
    obtain ⟨v, r, rfl, _, h3⟩ := h
    exact Reps.drop n h3
theorem Reps.set {K : PySem.W.Frag} {H : Hp} {d : D} {v : V} (q : Rep K H d v) : ∀ {ds : List D} {vs : List V} (i : Nat), Reps K H ds vs → Reps K H (ds.set i d) (vs.set i v)
  | [], _, _, h => by cases h; rfl
  | _ :: ds, _, 0, h => by
    obtain ⟨v, r, rfl, _, h3⟩ := h
    exact ⟨_, r, rfl, q, h3⟩
  | _ :: ds, _, i + 1, h => by
    obtain ⟨v, r, rfl, h2, h3⟩ := h
    exact ⟨v, r.set i _, rfl, h2, Reps.set q i h3⟩
theorem Reps.one {K : PySem.W.Frag} {H : Hp} {d : D} {v : V} (q : Rep K H d v) : Reps K H [d] [v] := ⟨v, [], rfl, q, rfl⟩
theorem Reps.cons {K : PySem.W.Frag} {H : Hp} {d : D} {v : V} {ds : List D} {vs : List V} (q : Rep K H d v) (r : Reps K H ds vs) : Reps K H (d :: ds) (v :: vs) := ⟨v, vs, rfl, q, r⟩
theorem Reps.ints {K : PySem.W.Frag} {H : Hp} : ∀ {ns : List Int} {vs : List V}, Reps K H (ns.map D.int) vs → vs = ns.map V.int
  | [], _, h => h
  | n :: ns, _, h => by
    obtain ⟨v, r, rfl, h2, h3⟩ := h
    have h2' : v = .int n := h2
    rw [h2', Reps.ints h3]; rfl
theorem Reps.ofInts {K : PySem.W.Frag} {H : Hp} : ∀ {ns : List Int}, Reps K H (ns.map D.int) (ns.map V.int)
  | [] => rfl
  | n :: ns => ⟨_, _, rfl, rfl, Reps.ofInts⟩
theorem Reps.strs {K : PySem.W.Frag} {H : Hp} : ∀ {ns : List Str} {vs : List V}, Reps K H (ns.map D.str) vs → vs = ns.map V.str
  | [], _, h => h
  | n :: ns, _, h => by
    obtain ⟨v, r, rfl, h2, h3⟩ := h
    have h2' : v = .str n := h2
    rw [h2', Reps.strs h3]; rfl
theorem Reps.ofStrs {K : PySem.W.Frag} {H : Hp} : ∀ {ns : List Str}, Reps K H (ns.map D.str) (ns.map V.str)
  | [] => rfl
  | n :: ns => ⟨_, _, rfl, rfl, Reps.ofStrs⟩
theorem Reps.bls {K : PySem.W.Frag} {H : Hp} : ∀ {ns : List Bool} {vs : List V}, Reps K H (ns.map D.bl) vs → vs = ns.map V.bl
  | [], _, h => h
  | n :: ns, _, h => by
    obtain ⟨v, r, rfl, h2, h3⟩ := h
    have h2' : v = .bl n := h2
    rw [h2', Reps.bls h3]; rfl
theorem Reps.reverse {K : PySem.W.Frag} {H : Hp} : ∀ {ds : List D} {vs : List V}, Reps K H ds vs → Reps K H ds.reverse vs.reverse
  | [], _, h => by cases h; rfl
  | d :: ds, _, h => by
    obtain ⟨v, r, rfl, h2, h3⟩ := h
    rw [List.reverse_cons, List.reverse_cons]
    exact Reps.append (Reps.reverse h3) (Reps.one h2)
theorem Reps.dropLast {K : PySem.W.Frag} {H : Hp} {ds : List D} {vs : List V} (h : Reps K H ds vs) : Reps K H ds.dropLast vs.dropLast := by
  rw [List.dropLast_eq_take, List.dropLast_eq_take, h.length]
  exact h.take _
theorem Reps.rep {K : PySem.W.Frag} {H : Hp} {ds : List D} {vs : List V} (h : Reps K H ds vs) : ∀ k : Nat, Reps K H (List.replicate k ds).flatten (List.replicate k vs).flatten
  | 0 => rfl
  | k + 1 => by
    rw [List.replicate_succ, List.replicate_succ, List.flatten_cons, List.flatten_cons]
    exact Reps.append h (Reps.rep h k)

/-- what may change, by its address -/
inductive O where
  | lst (l : List D)
  /-- a list that is read alone -/
  | rol (l : List D)
  | dK (kvs : List (Key × D))
  /-- a dict that is locked while it is walked -/
  | rdK (kvs : List (Key × D))
  | dT (kvs : List (List Key × D))
  /-- a dict by keys of any kind -/
  | dD (kvs : List (D × D))
  | ins (C : String) (fs : List (Str × D))
  /-- an exception's own dict -/
  | xd (fs : List (Str × D))
  /-- an exception: its class, its own dict -/
  | exc (C : String) (d : Option Addr)
/-- f: what may change; kl: lists of the module's own -/
structure Mp where
  f : Addr → Option O
  kl : Addr → Option (List D)
instance : CoeFun Mp (fun _ => Addr → Option O) := ⟨Mp.f⟩
def mset (m : Mp) (a : Addr) (o : O) : Mp := { m with f := fun b => if b = a then some o else m.f b }
theorem mset_same {m : Mp} {a : Addr} {o : O} : mset m a o a = some o := by unfold mset; dsimp only; rw [if_pos rfl]
theorem mset_ne {m : Mp} {a b : Addr} {o : O} (h : b ≠ a) : mset m a o b = m b := by unfold mset; dsimp only; rw [if_neg h]
theorem Mp.ext {m m' : Mp} (h : ∀ a, m a = m' a) (k : m.kl = m'.kl) : m = m' := by
  cases m; cases m'
  have : _ = _ := funext h
  dsimp only at this k
  subst this k
  rfl
theorem mset_mset {m : Mp} {a : Addr} {o u : O} : mset (mset m a o) a u = mset m a u :=
  Mp.ext (fun b => by unfold mset; dsimp only; split <;> rfl) rfl
theorem mset_comm {m : Mp} {a b : Addr} {o u : O} (h : a ≠ b) : mset (mset m a o) b u = mset (mset m b u) a o := by
  refine Mp.ext (fun c => ?_) rfl
  unfold mset
  dsimp only
  by_cases h1 : c = a
  · rw [if_neg (by rw [h1]; exact h), if_pos h1, if_pos h1]
  · by_cases h2 : c = b
    · rw [if_pos h2, if_neg h1, if_pos h2]
    · rw [if_neg h2, if_neg h1, if_neg h1, if_neg h2]
theorem mset_id {m : Mp} {a : Addr} {o : O} (h : m a = some o) : mset m a o = m :=
  Mp.ext (fun b => by
    unfold mset; dsimp only
    by_cases e : b = a
    · rw [if_pos e, e]; exact h.symm
    · rw [if_neg e]) rfl
theorem ne_none {m : Mp} {a b : Addr} {o : O} (h : m a = some o) (h' : m b = none) : a ≠ b := by
  intro e; subst e; rw [h] at h'; cases h'
/-- less is known -/
def Le (m m' : Mp) : Prop := m.kl = m'.kl ∧ ∀ a o, m a = some o → m' a = some o
theorem Le.refl (m : Mp) : Le m m := ⟨rfl, fun _ _ h => h⟩
theorem Le.trans {a b c : Mp} (h : Le a b) (h' : Le b c) : Le a c := ⟨h.1.trans h'.1, fun p o q => h'.2 p o (h.2 p o q)⟩
theorem Le.gone {m m' : Mp} (h : Le m m') {a : Addr} (e : m' a = none) : m a = none := by
  cases q : m a with
  | none => rfl
  | some o => rw [h.2 a o q] at e; cases e
theorem Le.new {m m' : Mp} (h : Le m m') {a : Addr} {o : O} (e : m a = none) : Le m (mset m' a o) := ⟨h.1, fun b u q => by
  rw [mset_ne (ne_none q e)]
  exact h.2 b u q⟩
theorem Le.set {m m' : Mp} (h : Le m m') (a : Addr) (o : O) : Le (mset m a o) (mset m' a o) := ⟨h.1, fun b u q => by
  by_cases e : b = a
  · subst e; rw [mset_same] at q ⊢; exact q
  · rw [mset_ne e] at q ⊢; exact h.2 b u q⟩
/-- a list to be read -/
def RL (m : Mp) (a : Addr) (l : List D) : Prop := m a = some (.lst l) ∨ m a = some (.rol l) ∨ m.kl a = some l
theorem RL.of {m : Mp} {a : Addr} {l : List D} (h : m a = some (.lst l)) : RL m a l := .inl h
theorem RL.le {m m' : Mp} {a : Addr} {l : List D} (h : RL m a l) (e : Le m m') : RL m' a l := by
  rcases h with h | h | h
  · exact .inl (e.2 _ _ h)
  · exact .inr (.inl (e.2 _ _ h))
  · exact .inr (.inr (e.1 ▸ h))

theorem RepXs.mono {K : PySem.W.Frag} {H H' : Hp} (e : Ext H H') : ∀ {ds : List (D × D)} {xs : List XEn}, RepXs K H ds xs → RepXs K H' ds xs
  | [], _, h => h
  | (k, d) :: ds, _, h => by
    obtain ⟨x, y, r, e1, e2, e3, e4⟩ := h
    exact ⟨x, y, r, e1, e2.mono e, e3.mono e, RepXs.mono e e4⟩
def RepK {κ : Type} (K : PySem.W.Frag) (H : Hp) : List (κ × D) → List (κ × V) → Prop
  | [], r => r = []
  | (k, d) :: ds, r => ∃ v r', r = (k, v) :: r' ∧ Rep K H d v ∧ RepK K H ds r'
theorem RepK.mono {κ : Type} {K : PySem.W.Frag} {H H' : Hp} (e : Ext H H') : ∀ {ds : List (κ × D)} {vs : List (κ × V)}, RepK K H ds vs → RepK K H' ds vs
  | [], _, h => h
  | (k, d) :: ds, _, h => by
    obtain ⟨v, r, e1, e2, e3⟩ := h
    exact ⟨v, r, e1, e2.mono e, RepK.mono e e3⟩

theorem RepK.length {κ : Type} {K : PySem.W.Frag} {H : Hp} : ∀ {ds : List (κ × D)} {vs : List (κ × V)}, RepK K H ds vs → ds.length = vs.length
  | [], _, h => by cases h; rfl
  | (k, d) :: ds, _, h => by
    obtain ⟨v, r, rfl, _, h3⟩ := h
    simp [RepK.length h3]
theorem RepK.append {κ : Type} {K : PySem.W.Frag} {H : Hp} : ∀ {ds es : List (κ × D)} {vs ws : List (κ × V)}, RepK K H ds vs → RepK K H es ws → RepK K H (ds ++ es) (vs ++ ws)
  | [], _, _, _, h, q => by cases h; exact q
  | (k, d) :: ds, _, _, _, h, q => by
    obtain ⟨v, r, rfl, h2, h3⟩ := h
    exact ⟨v, r ++ _, rfl, h2, RepK.append h3 q⟩
theorem RepK.keys {κ : Type} {K : PySem.W.Frag} {H : Hp} : ∀ {ds : List (κ × D)} {vs : List (κ × V)}, RepK K H ds vs → ds.map (·.1) = vs.map (·.1)
  | [], _, h => by cases h; rfl
  | (k, d) :: ds, _, h => by
    obtain ⟨v, r, rfl, _, h3⟩ := h
    simp [RepK.keys h3]
theorem RepK.vals {κ : Type} {K : PySem.W.Frag} {H : Hp} : ∀ {ds : List (κ × D)} {vs : List (κ × V)}, RepK K H ds vs → Reps K H (ds.map (·.2)) (vs.map (·.2))
  | [], _, h => by cases h; rfl
  | (k, d) :: ds, _, h => by
    obtain ⟨v, r, rfl, h2, h3⟩ := h
    exact ⟨v, r.map (·.2), rfl, h2, RepK.vals h3⟩
/-- what a dict holds at a key -/
def getD {κ : Type} [DecidableEq κ] (kvs : List (κ × D)) (k : κ) : Option D := (kvs.find? fun kv => decide (kv.1 = k)).map (·.2)
def putD {κ : Type} [DecidableEq κ] (kvs : List (κ × D)) (k : κ) (v : D) : List (κ × D) :=
  if kvs.any (fun kv => decide (kv.1 = k)) then kvs.map (fun kv => if kv.1 = k then (kv.1, v) else kv) else kvs ++ [(k, v)]
theorem getD_nil {κ : Type} [DecidableEq κ] {k : κ} : getD ([] : List (κ × D)) k = none := rfl
theorem getD_pos {κ : Type} [DecidableEq κ] {p : κ × D} {r : List (κ × D)} {k : κ} (e : p.1 = k) : getD (p :: r) k = some p.2 := by simp [getD, List.find?_cons, e]
theorem getD_neg {κ : Type} [DecidableEq κ] {p : κ × D} {r : List (κ × D)} {k : κ} (e : ¬ p.1 = k) : getD (p :: r) k = getD r k := by simp [getD, List.find?_cons, e]
section
variable {κ : Type} [DecidableEq κ] {K : PySem.W.Frag} {H : Hp}
theorem RepK.val (k : κ) : ∀ {ds : List (κ × D)} {vs : List (κ × V)}, RepK K H ds vs → (getD ds k = none ∧ L2.valV vs k = none) ∨ ∃ d v, getD ds k = some d ∧ L2.valV vs k = some v ∧ Rep K H d v
  | [], _, h => by cases h; exact .inl ⟨rfl, rfl⟩
  | (k', d) :: ds, _, h => by
    obtain ⟨v, r, rfl, h2, h3⟩ := h
    by_cases e : k' = k
    · exact .inr ⟨d, v, getD_pos e, L2.valV_pos e, h2⟩
    · rw [getD_neg e, L2.valV_neg e]
      exact RepK.val k h3
theorem RepK.some {k : κ} {ds : List (κ × D)} {vs : List (κ × V)} {d : D} (h : RepK K H ds vs) (e : getD ds k = some d) : ∃ v, L2.valV vs k = some v ∧ Rep K H d v := by
  rcases h.val k with ⟨h1, _⟩ | ⟨d', v, h1, h2, h3⟩
  · rw [h1] at e; cases e
  · rw [h1] at e; cases e; exact ⟨v, h2, h3⟩
theorem RepK.none {k : κ} {ds : List (κ × D)} {vs : List (κ × V)} (h : RepK K H ds vs) (e : getD ds k = none) : L2.valV vs k = none := by
  rcases h.val k with ⟨_, h1⟩ | ⟨d', v, h1, h2, h3⟩
  · exact h1
  · rw [h1] at e; cases e
theorem RepK.repl {k : κ} {d : D} {v : V} (q : Rep K H d v) : ∀ {ds : List (κ × D)} {vs : List (κ × V)}, RepK K H ds vs →
    RepK K H (ds.map fun kv => if kv.1 = k then (kv.1, d) else kv) (vs.map fun kv => if kv.1 = k then (kv.1, v) else kv)
  | [], _, h => by cases h; rfl
  | (k', d') :: ds, _, h => by
    obtain ⟨v', r, rfl, h2, h3⟩ := h
    have ih := RepK.repl (k := k) q h3
    by_cases e : k' = k
    · simp only [List.map_cons, if_pos e]
      exact ⟨v, _, rfl, q, ih⟩
    · simp only [List.map_cons, if_neg e]
      exact ⟨v', _, rfl, h2, ih⟩
theorem RepK.any {ds : List (κ × D)} {vs : List (κ × V)} (k : κ) (h : RepK K H ds vs) : (ds.any fun kv => decide (kv.1 = k)) = vs.any fun kv => decide (kv.1 = k) := by
  have e := h.keys
  have e1 : ∀ l : List (κ × D), (l.any fun kv => decide (kv.1 = k)) = (l.map (·.1)).any fun y => decide (y = k) := fun l => by rw [List.any_map]; rfl
  have e2 : ∀ l : List (κ × V), (l.any fun kv => decide (kv.1 = k)) = (l.map (·.1)).any fun y => decide (y = k) := fun l => by rw [List.any_map]; rfl
  rw [e1, e2, e]
theorem RepK.put {k : κ} {d : D} {v : V} {ds : List (κ × D)} {vs : List (κ × V)} (h : RepK K H ds vs) (q : Rep K H d v) : RepK K H (putD ds k d) (L2.putK vs k v) := by
  unfold putD L2.putK
  rw [h.any k]
  split
  · exact h.repl q
  · exact h.append ⟨v, [], rfl, q, rfl⟩
end
def keyD : Key → D
  | .inl i => .int i
  | .inr z => .str z
theorem rep_key {K : PySem.W.Frag} {H : Hp} {k : Key} {v : V} (h : Rep K H (keyD k) v) : v = kV k := by
  cases k <;> exact h
theorem key_rep {K : PySem.W.Frag} {H : Hp} (k : Key) : Rep K H (keyD k) (kV k) := by
  cases k <;> rfl

/-- the classes of the program by their names -/
structure Cl where
  f : String → Option Addr
  w : World
instance : CoeFun Cl (fun _ => String → Option Addr) := ⟨Cl.f⟩
/-- a list of the module's own -/
def SqK (K : PySem.W.Frag) (a : Addr) (xs : List V) : Prop :=
  ∃ (o : Obj) (its : Array Value) (n : Nat), K.lookup a = some o ∧ o.cls = .type "list" ∧ o.dict = none ∧ o.data = .seq its n ∧ its.size ≤ sizeLine ∧ Vals xs its.toList
/-- the program's own exception classes -/
def eNames : List String := ["VaultError", "NoThing", "NoPaper", "BadThing", "Clash", "NotOn", "NoState", "NoName", "NoTable", "NoColumn", "NoRow", "NoQuestion", "NoPlan", "NoStep", "NotSo", "NoCommand"]
/-- an exception's object, tracked -/
def exoH (cls : Value) (d : Option Addr) (a : Addr) : HO := .ext fun h => ∃ oe : Obj, h.get? a = some oe ∧ Zc cls d oe ∧ ∃ vs, oe.data = .fields vs
def RepO (K : PySem.W.Frag) (cl : Cl) (H : Hp) (a : Addr) : O → Prop
  | .lst l => ∃ vs, H a = some (.lst vs) ∧ Reps K H l vs
  | .rol l => ∃ o vs, H a = some (.frz o (.lst vs)) ∧ Reps K H l vs
  | .dK kvs => ∃ kws, H a = some (.dK kws) ∧ RepK K H kvs kws
  | .dT kvs => ∃ kws, H a = some (.dT kws) ∧ RepK K H kvs kws
  | .rdK kvs => ∃ o kws, H a = some (.frz o (.dK kws)) ∧ RepK K H kvs kws
  | .dD kvs => ∃ xs, H a = some (dxH cl.w a xs) ∧ RepXs K H kvs xs
  | .ins C fs => ∃ Ca dx fvs, (C ∉ eNames ∧ cl C = some Ca) ∧ H a = some (.ins Ca dx fvs) ∧ RepK K H fs fvs
  | .xd fs => ∃ fvs, H a = some (.xd fvs) ∧ RepK K H fs fvs
  | .exc C d => ∃ Ca, C ∈ eNames ∧ cl C = some Ca ∧ H a = some (exoH (.ref Ca) d a)
theorem RepO.mono {K : PySem.W.Frag} {cl : Cl} {H H' : Hp} {a : Addr} (e : Ext H H') (ha : H' a = H a) : ∀ {o : O}, RepO K cl H a o → RepO K cl H' a o
  | .lst l, ⟨vs, h1, h2⟩ => ⟨vs, ha.trans h1, h2.mono e⟩
  | .rol l, ⟨o, vs, h1, h2⟩ => ⟨o, vs, ha.trans h1, h2.mono e⟩
  | .dK _, ⟨vs, h1, h2⟩ => ⟨vs, ha.trans h1, h2.mono e⟩
  | .dT _, ⟨vs, h1, h2⟩ => ⟨vs, ha.trans h1, h2.mono e⟩
  | .rdK _, ⟨o, vs, h1, h2⟩ => ⟨o, vs, ha.trans h1, h2.mono e⟩
  | .dD _, ⟨xs, h1, h2⟩ => ⟨xs, ha.trans h1, h2.mono e⟩
  | .ins _ _, ⟨Ca, dx, vs, h0, h1, h2⟩ => ⟨Ca, dx, vs, h0, ha.trans h1, h2.mono e⟩
  | .xd _, ⟨vs, h1, h2⟩ => ⟨vs, ha.trans h1, h2.mono e⟩
  | .exc _ _, ⟨Ca, hn, h0, h1⟩ => ⟨Ca, hn, h0, ha.trans h1⟩

def Ab (K : PySem.W.Frag) (cl : Cl) (H : Hp) (m : Mp) : Prop := (∀ a o, m a = some o → RepO K cl H a o) ∧ ∀ a l, m.kl a = some l → ∃ vs, SqK K a vs ∧ ∀ H, Reps K H l vs
theorem Ab.rl {K : PySem.W.Frag} {cl : Cl} {H : Hp} {m : Mp} {a : Addr} {l : List D} (h : Ab K cl H m) (q : RL m a l) : ∃ vs, SqL K H a vs ∧ Reps K H l vs := by
  rcases q with q | q | q
  · obtain ⟨vs, h1, h2⟩ := h.1 a _ q
    exact ⟨vs, SqL.of h1, h2⟩
  · obtain ⟨o, vs, h1, h2⟩ := h.1 a _ q
    exact ⟨vs, .inl (.inr ⟨o, h1⟩), h2⟩
  · obtain ⟨vs, h1, h2⟩ := h.2 a l q
    exact ⟨vs, .inr h1, h2 H⟩
section
variable {K : PySem.W.Frag} {cl : Cl} {H H' : Hp} {m m' : Mp} {p : Addr} {o o' : O} {u : HO}
theorem Ab.le (h : Ab K cl H m') (l : Le m m') : Ab K cl H m := ⟨fun a o e => h.1 a o (l.2 a o e), fun a x e => h.2 a x (l.1 ▸ e)⟩
theorem Ab.same (h : Ab K cl H m) (e : Ext H H') (k : ∀ a o, m a = some o → H' a = H a) : Ab K cl H' m := ⟨fun a o q => (h.1 a o q).mono e (k a o q), h.2⟩
theorem Ab.there (h : Ab K cl H m) (q : m p = some o) : ∃ u, H p = some u := by
  have r := h.1 p o q
  cases o with
  | lst l => obtain ⟨vs, h1, _⟩ := r; exact ⟨_, h1⟩
  | rol l => obtain ⟨_, vs, h1, _⟩ := r; exact ⟨_, h1⟩
  | dK l => obtain ⟨vs, h1, _⟩ := r; exact ⟨_, h1⟩
  | dT l => obtain ⟨vs, h1, _⟩ := r; exact ⟨_, h1⟩
  | rdK l => obtain ⟨_, vs, h1, _⟩ := r; exact ⟨_, h1⟩
  | dD l => obtain ⟨vs, h1, _⟩ := r; exact ⟨_, h1⟩
  | ins C fs => obtain ⟨_, _, vs, _, h1, _⟩ := r; exact ⟨_, h1⟩
  | xd fs => obtain ⟨vs, h1, _⟩ := r; exact ⟨_, h1⟩
  | exc C d => obtain ⟨_, _, _, h1⟩ := r; exact ⟨_, h1⟩
theorem Ab.free (h : Ab K cl H m) (n : H p = none) : m p = none := by
  cases q : m p with
  | none => rfl
  | some o => obtain ⟨u, e⟩ := h.there q; rw [n] at e; cases e
/-- a new thing that is not told of (a tuple) -/
theorem Ab.hid (h : Ab K cl H m) (n : H p = none) : Ab K cl (upd H p u) m := h.same (Ext.new n) fun a o q => by
  obtain ⟨v, e⟩ := h.there q
  exact upd_ne (ne_of_none e n)
theorem Ab.new (h : Ab K cl H m) (n : H p = none) (r : RepO K cl (upd H p u) p o) : Ab K cl (upd H p u) (mset m p o) := ⟨fun a x q => by
  by_cases e : a = p
  · subst e; rw [mset_same] at q; cases q; exact r
  · rw [mset_ne e] at q; exact (h.hid n).1 a x q, h.2⟩
theorem Ab.put (h : Ab K cl H m) (e : Ext H (upd H p u)) (r : RepO K cl (upd H p u) p o) : Ab K cl (upd H p u) (mset m p o) := ⟨fun a x q => by
  by_cases z : a = p
  · subst z; rw [mset_same] at q; cases q; exact r
  · rw [mset_ne z] at q; exact (h.1 a x q).mono e (upd_ne z), h.2⟩
theorem ext_lst {xs : List V} (h : H p = some (.lst xs)) : Ext H (upd H p u) := Ext.put h (fun _ z => by cases z) (fun _ _ z => by cases z)
theorem ext_dK {xs : List (Key × V)} (h : H p = some (.dK xs)) : Ext H (upd H p u) := Ext.put h (fun _ z => by cases z) (fun _ _ z => by cases z)
theorem ext_dT {xs : List (List Key × V)} (h : H p = some (.dT xs)) : Ext H (upd H p u) := Ext.put h (fun _ z => by cases z) (fun _ _ z => by cases z)
theorem ext_ins {C dx : Addr} {fs : List (Str × V)} (h : H p = some (.ins C dx fs)) : Ext H (upd H p u) := Ext.put h (fun _ z => by cases z) (fun _ _ z => by cases z)
end

/-! ### readings -/
abbrev S3 := List (Option D)
/-- an exception: its class, its own dict -/
structure Xc where
  cls : String
  dct : Option Addr
abbrev K3 := D → Mp → Prop
abbrev X3 := Xc → Mp → Prop
abbrev TE3 := S3 → Mp → K3 → X3 → Prop
abbrev TT3 := S3 → Mp → (Bool → Mp → Prop) → X3 → Prop
abbrev TA3 := S3 → Mp → (List D → Mp → Prop) → X3 → Prop
structure N3 where
  nx : S3 → Mp → Prop
  rt : K3
  bk : S3 → Mp → Prop := fun _ _ => False
  ct : S3 → Mp → Prop := fun _ _ => False
  ex : S3 → X3
abbrev TS3 := N3 → S3 → Mp → Prop

def RepS (K : PySem.W.Frag) (H : Hp) (s : S3) (σ : L2.St) : Prop := s.length = σ.length ∧ ∀ (i : Nat) (d : D), s[i]? = some (some d) → ∃ v, σ[i]? = some (some v) ∧ Rep K H d v
theorem RepS.mono {K : PySem.W.Frag} {H H' : Hp} {s : S3} {σ : L2.St} (e : Ext H H') (h : RepS K H s σ) : RepS K H' s σ := ⟨h.1, fun i d q => let ⟨v, h1, h2⟩ := h.2 i d q; ⟨v, h1, h2.mono e⟩⟩
theorem RepS.set {K : PySem.W.Frag} {H : Hp} {s : S3} {σ : L2.St} {d : D} {v : V} (h : RepS K H s σ) (r : Rep K H d v) (i : Nat) : RepS K H (s.set i (some d)) (σ.set i (some v)) := by
  refine ⟨by rw [List.length_set, List.length_set, h.1], fun j e q => ?_⟩
  by_cases hj : i = j
  · subst hj
    by_cases hl : i < s.length
    · rw [List.getElem?_set_self hl] at q
      cases q
      exact ⟨v, List.getElem?_set_self (h.1 ▸ hl), r⟩
    · rw [List.getElem?_eq_none (by simpa using hl)] at q; cases q
  · rw [List.getElem?_set_ne hj] at q
    obtain ⟨w, h1, h2⟩ := h.2 j e q
    exact ⟨w, by rw [List.getElem?_set_ne hj]; exact h1, h2⟩
theorem RepS.wipe {K : PySem.W.Frag} {H : Hp} {s : S3} {σ : L2.St} (h : RepS K H s σ) (i : Nat) : RepS K H (s.set i none) (σ.set i none) := by
  refine ⟨by rw [List.length_set, List.length_set, h.1], fun j e q => ?_⟩
  by_cases hj : i = j
  · subst hj
    by_cases hl : i < s.length
    · rw [List.getElem?_set_self hl] at q; cases q
    · rw [List.getElem?_eq_none (by simpa using hl)] at q; cases q
  · rw [List.getElem?_set_ne hj] at q
    obtain ⟨w, h1, h2⟩ := h.2 j e q
    exact ⟨w, by rw [List.getElem?_set_ne hj]; exact h1, h2⟩

/-- how an exception lies in the heap: its class's address, its own dict -/
def RepX (K : PySem.W.Frag) (cl : Cl) (H : Hp) (x : Xc) (c : Value) (dd : Option Addr) : Prop :=
  ∃ C, x.cls ∈ eNames ∧ cl x.cls = some C ∧ c = .ref C ∧ dd = x.dct

section
variable (K : PySem.W.Frag) (cl : Cl) (W : WX)
def cE (H : Hp) (Q : VK) : K3 := fun d m => ∀ v H', Rep K H' d v → Ab K cl H' m → Ext H H' → Q v H'
def cT (H : Hp) (Q : Bool → Hp → Prop) : Bool → Mp → Prop := fun b m => ∀ H', Ab K cl H' m → Ext H H' → Q b H'
def cA (H : Hp) (Q : List V → Hp → Prop) : List D → Mp → Prop := fun ds m => ∀ vs H', Reps K H' ds vs → Ab K cl H' m → Ext H H' → Q vs H'
def cX (H : Hp) (σ : L2.St) : X3 := fun x m => ∀ c dd H', RepX K cl H' x c dd → Ab K cl H' m → Ext H H' → W c dd σ H'
def cS (H : Hp) (N : L2.St → Hp → Prop) : S3 → Mp → Prop := fun s m => ∀ σ H', RepS K H' s σ → Ab K cl H' m → Ext H H' → N σ H'
def cN (H : Hp) (D : Ends) : N3 := ⟨cS K cl H D.nx, cE K cl H D.rt, cS K cl H D.bk, cS K cl H D.ct, fun s x m => ∀ σ c dd H', RepS K H' s σ → RepX K cl H' x c dd → Ab K cl H' m → Ext H H' → W c dd σ H'⟩
def upE (T : TE3) : TE := fun σ H Q => ∃ s m, RepS K H s σ ∧ Ab K cl H m ∧ T s m (cE K cl H Q) (cX K cl W H σ)
def upT (T : TT3) : TT := fun σ H Q => ∃ s m, RepS K H s σ ∧ Ab K cl H m ∧ T s m (cT K cl H Q) (cX K cl W H σ)
def upA (T : TA3) : TA := fun σ H Q => ∃ s m, RepS K H s σ ∧ Ab K cl H m ∧ T s m (cA K cl H Q) (cX K cl W H σ)
def upS (T : TS3) : TS := fun D σ H => ∃ s m, RepS K H s σ ∧ Ab K cl H m ∧ T (cN K cl W H D) s m
end

def MonoE (T : TE3) : Prop := ∀ s m k k' x x', (∀ d m, k d m → k' d m) → (∀ e m, x e m → x' e m) → T s m k x → T s m k' x'
def MonoT (T : TT3) : Prop := ∀ s m k k' x x', (∀ d m, k d m → k' d m) → (∀ e m, x e m → x' e m) → T s m k x → T s m k' x'
def MonoA (T : TA3) : Prop := ∀ s m k k' x x', (∀ d m, k d m → k' d m) → (∀ e m, x e m → x' e m) → T s m k x → T s m k' x'
structure N3.Le (D D' : N3) : Prop where
  nx : ∀ s m, D.nx s m → D'.nx s m
  rt : ∀ d m, D.rt d m → D'.rt d m
  bk : ∀ s m, D.bk s m → D'.bk s m
  ct : ∀ s m, D.ct s m → D'.ct s m
  ex : ∀ s x m, D.ex s x m → D'.ex s x m
def MonoS (T : TS3) : Prop := ∀ s m D D', N3.Le D D' → T D s m → T D' s m
structure QE (X : Cx) (cl : Cl) (W : WX) (e : Expr) (T : TE3) : Prop where
  mono : MonoE T
  run : PE X e (upE X.K cl W T)
structure QT (X : Cx) (cl : Cl) (W : WX) (e : Expr) (T : TT3) : Prop where
  mono : MonoT T
  run : PT X e (upT X.K cl W T)
structure QW (X : Cx) (cl : Cl) (W : WX) (e : Expr) (T : TT3) : Prop where
  mono : MonoT T
  run : PW X e (upT X.K cl W T)
structure QA (X : Cx) (cl : Cl) (W : WX) (es : List Expr) (T : TA3) : Prop where
  mono : MonoA T
  run : PA X es (upA X.K cl W T)
structure QS (X : Cx) (cl : Cl) (W : WX) (st : Stmt) (T : TS3) : Prop where
  mono : MonoS T
  run : PS X st (upS X.K cl W T)
structure QB (X : Cx) (cl : Cl) (W : WX) (st : List Stmt) (T : TS3) : Prop where
  mono : MonoS T
  run : PSs X st (upS X.K cl W T)
theorem PE.imp {X : Cx} {e : Expr} {t t' : TE} (h : PE X e t) (i : ∀ σ H Q, t' σ H Q → t σ H Q) : PE X e t' := ⟨fun pins s σ H Q I q => h.run pins s σ H Q I (i σ H Q q)⟩
theorem PT.imp {X : Cx} {e : Expr} {t t' : TT} (h : PT X e t) (i : ∀ σ H Q, t' σ H Q → t σ H Q) : PT X e t' := ⟨fun pins s σ H Q I q => h.run pins s σ H Q I (i σ H Q q)⟩
theorem PW.imp {X : Cx} {e : Expr} {t t' : TT} (h : PW X e t) (i : ∀ σ H Q, t' σ H Q → t σ H Q) : PW X e t' := ⟨fun w pins s σ H Q I q => h.run w pins s σ H Q I (i σ H Q q)⟩
theorem PA.imp {X : Cx} {es : List Expr} {t t' : TA} (h : PA X es t) (i : ∀ σ H Q, t' σ H Q → t σ H Q) : PA X es t' := ⟨fun p pins s σ H Q I q => h.run p pins s σ H Q I (i σ H Q q)⟩
theorem PS.imp {X : Cx} {st : Stmt} {t t' : TS} (h : PS X st t) (i : ∀ D σ H, t' D σ H → t D σ H) : PS X st t' := ⟨fun pins s σ H D I q => h.run pins s σ H D I (i D σ H q)⟩
theorem PSs.imp {X : Cx} {st : List Stmt} {t t' : TS} (h : PSs X st t) (i : ∀ D σ H, t' D σ H → t D σ H) : PSs X st t' := ⟨fun pins s σ H D I q => h.run pins s σ H D I (i D σ H q)⟩
section
variable {K : PySem.W.Frag} {cl : Cl} {W : WX} {H H1 : Hp} {σ : L2.St}
theorem cX_ext (e : Ext H H1) {x : Xc} {m : Mp} (h : cX K cl W H σ x m) : cX K cl W H1 σ x m := fun c dd H' r a z => h c dd H' r a (e.trans z)
theorem cE_ext (e : Ext H H1) {Q : VK} {d : D} {m : Mp} (h : cE K cl H Q d m) : cE K cl H1 Q d m := fun v H' r a z => h v H' r a (e.trans z)
theorem cT_ext (e : Ext H H1) {Q : Bool → Hp → Prop} {d : Bool} {m : Mp} (h : cT K cl H Q d m) : cT K cl H1 Q d m := fun H' a z => h H' a (e.trans z)
theorem cA_ext (e : Ext H H1) {Q : List V → Hp → Prop} {d : List D} {m : Mp} (h : cA K cl H Q d m) : cA K cl H1 Q d m := fun v H' r a z => h v H' r a (e.trans z)
theorem cS_ext (e : Ext H H1) {N : L2.St → Hp → Prop} {s : S3} {m : Mp} (h : cS K cl H N s m) : cS K cl H1 N s m := fun v H' r a z => h v H' r a (e.trans z)
theorem cN_ext (e : Ext H H1) {D : Ends} : N3.Le (cN K cl W H D) (cN K cl W H1 D) :=
  ⟨fun _ _ h => cS_ext e h, fun _ _ h => cE_ext e h, fun _ _ h => cS_ext e h, fun _ _ h => cS_ext e h, fun s x m h σ c dd H' a b d z => h σ c dd H' a b d (e.trans z)⟩
theorem cE_le {Q : VK} {d : D} {m m' : Mp} (l : Le m m') (h : cE K cl H Q d m) : cE K cl H Q d m' := fun v H' r a z => h v H' r (a.le l) z
theorem cX_le {x : Xc} {m m' : Mp} (l : Le m m') (h : cX K cl W H σ x m) : cX K cl W H σ x m' := fun c dd H' r a z => h c dd H' r (a.le l) z
end
end PV

/-! Expressions. -/
namespace PV
open PySem L2 PyProof.Rows
section
variable {X : Cx} {cl : Cl} {W : WX} {a b c : Expr} {A B C : TE3} {pos : Pos}

/-! ### names, constants -/
def eVar (i : Nat) : TE3 := fun s m k _ => ∃ d, s[i]? = some (some d) ∧ k d m
def eLit (d : D) : TE3 := fun _ m k _ => k d m
theorem q_var {i : Nat} {x : Str} (hN : X.N[i]? = some x) (hv : Vis X.env.scope x) (hd : (x == ("__debug__" : Str)) = false) (hcd : (x == ("__classdict__" : Str)) = false) : QE X cl W (.Name x pos) (eVar i) :=
  ⟨fun s m k k' x x' hk hx ⟨d, h1, h2⟩ => ⟨d, h1, hk _ _ h2⟩,
   PE.imp (pe_var hN hv hd hcd) fun σ H Q ⟨s, m, hs, hm, d, h1, h2⟩ => by
    obtain ⟨v, e, r⟩ := hs.2 _ _ h1
    exact ⟨v, e, h2 v H r hm (Ext.refl H)⟩⟩
theorem mono_lit {d : D} : MonoE (eLit d) := fun s m k k' x x' hk hx h => hk _ _ h
theorem lit_of {e : Expr} {d : D} {v : V} (h : PE X e (tC v)) (r : ∀ H, Rep X.K H d v) : QE X cl W e (eLit d) :=
  ⟨mono_lit, PE.imp h fun σ H Q ⟨s, m, hs, hm, h1⟩ => h1 v H (r H) hm (Ext.refl H)⟩
theorem q_int {i j} : QE X cl W (.Constant (.int i) j pos) (eLit (.int i)) := lit_of pe_int fun _ => rfl
theorem q_bl {i j} : QE X cl W (.Constant (.bool i) j pos) (eLit (.bl i)) := lit_of pe_bl fun _ => rfl
theorem q_non {j} : QE X cl W (.Constant .none j pos) (eLit .non) := lit_of pe_non fun _ => rfl
theorem q_str {i j} : QE X cl W (.Constant (.str i) j pos) (eLit (.str i)) := lit_of pe_str fun _ => rfl
/-- a constant of the module -/
theorem q_glob {x : Str} {d : D} {v : V} {u : Value} (hg : Gl X x) (hm : X.mg x = some u) (r : RelV v u) (q : ∀ H, Rep X.K H d v) (hd : (x == ("__debug__" : Str)) = false) : QE X cl W (.Name x pos) (eLit d) :=
  lit_of (pe_glob hg hm r hd) q

/-! ### two operands -/
def eBin (f : D → D → Mp → K3 → Prop) (A B : TE3) : TE3 := fun s m k x => A s m (fun u m1 => B s m1 (fun v m2 => f u v m2 k) x) x
def MonoF (f : D → D → Mp → K3 → Prop) : Prop := ∀ u v m k k', (∀ d m, k d m → k' d m) → f u v m k → f u v m k'
theorem mono_bin {f : D → D → Mp → K3 → Prop} (hf : MonoF f) (ha : MonoE A) (hb : MonoE B) : MonoE (eBin f A B) := fun s m k k' x x' hk hx h =>
  ha _ _ _ _ _ _ (fun u m1 h1 => hb _ _ _ _ _ _ (fun v m2 h2 => hf _ _ _ _ _ hk h2) hx h1) hx h
theorem two_up {r : R2} {f : D → D → Mp → K3 → Prop} (ma : MonoE A) (mb : MonoE B)
    (hf : ∀ (H : Hp) (m : Mp) (u v : D) (x y : V) (Q : VK), Rep X.K H u x → Rep X.K H v y → Ab X.K cl H m → f u v m (cE X.K cl H Q) → r x y H Q) (mf : MonoF f)
    (σ : L2.St) (H : Hp) (Q : VK) (h : upE X.K cl W (eBin f A B) σ H Q) : tOp r (upE X.K cl W A) (upE X.K cl W B) σ H Q := by
  obtain ⟨s, m, hs, hm, h⟩ := h
  refine ⟨s, m, hs, hm, ma _ _ _ _ _ _ (fun u m1 h1 x H1 rx hm1 e1 => ?_) (fun _ _ z => z) h⟩
  refine ⟨s, m1, hs.mono e1, hm1, mb _ _ _ _ _ _ (fun v m2 h2 y H2 ry hm2 e2 => ?_) (fun _ _ z => cX_ext e1 z) h1⟩
  exact hf H2 m2 u v x y Q (rx.mono e2) ry hm2 (mf _ _ _ _ _ (fun d m z => cE_ext (e1.trans e2) z) h2)
theorem q_bin {op : Operator} {r : R2} {f : D → D → Mp → K3 → Prop} (ho : OpR X (binaryOp op) r)
    (hf : ∀ (H : Hp) (m : Mp) (u v : D) (x y : V) (Q : VK), Rep X.K H u x → Rep X.K H v y → Ab X.K cl H m → f u v m (cE X.K cl H Q) → r x y H Q) (mf : MonoF f)
    (ha : QE X cl W a A) (hb : QE X cl W b B) : QE X cl W (.BinOp a op b pos) (eBin f A B) :=
  ⟨mono_bin mf ha.mono hb.mono, PE.imp (pe_op ho ha.run hb.run) (two_up ha.mono hb.mono hf mf)⟩
theorem q_cmp {op : CmpOp} {r : R2} {f : D → D → Mp → K3 → Prop} (ho : OpR X (compareOp op) r)
    (hf : ∀ (H : Hp) (m : Mp) (u v : D) (x y : V) (Q : VK), Rep X.K H u x → Rep X.K H v y → Ab X.K cl H m → f u v m (cE X.K cl H Q) → r x y H Q) (mf : MonoF f)
    (ha : QE X cl W a A) (hb : QE X cl W b B) (hm : behindInMarks op b = false) : QE X cl W (.Compare a [op] [b] pos) (eBin f A B) :=
  ⟨mono_bin mf ha.mono hb.mono, PE.imp (pe_cmpR ho ha.run hb.run hm) (two_up ha.mono hb.mono hf mf)⟩

/-- + -/
def fAdd : D → D → Mp → K3 → Prop
  | .int i, .int j, m, k => k (.int (i + j)) m
  | .str i, .str j, m, k => i.length + j.length ≤ sizeLine ∧ k (.str (i ++ j)) m
  | .tup i, .tup j, m, k => i.length + j.length ≤ sizeLine ∧ k (.tup (i ++ j)) m
  | .ref p, .ref q, m, k => ∃ l r, m p = some (.lst l) ∧ m q = some (.lst r) ∧ l.length + r.length ≤ sizeLine ∧ ∀ z, m z = none → k (.ref z) (mset m z (.lst (l ++ r)))
  | _, _, _, _ => False
theorem mono_add : MonoF fAdd := fun u v m k k' hk h => by
  unfold fAdd at h ⊢
  split at h <;> first
    | exact hk _ _ h
    | exact ⟨h.1, hk _ _ h.2⟩
    | (obtain ⟨l, r, h1, h2, h3, h4⟩ := h; exact ⟨l, r, h1, h2, h3, fun z hz => hk _ _ (h4 z hz)⟩)
    | exact h.elim
theorem rep_tup {K : PySem.W.Frag} {H : Hp} {p : Addr} {l : List D} {vs : List V} (h : H p = none) (r : Reps K H l vs) : Rep K (upd H p (.tup vs)) (.tup l) (.ref p) := ⟨p, vs, rfl, SqT.of upd_same, r.mono (Ext.new h)⟩
theorem new_lst {K : PySem.W.Frag} {cl : Cl} {H : Hp} {m : Mp} {p : Addr} {l : List D} {vs : List V} (hm : Ab K cl H m) (h : H p = none) (r : Reps K H l vs) : Ab K cl (upd H p (.lst vs)) (mset m p (.lst l)) :=
  hm.new h ⟨vs, upd_same, r.mono (Ext.new h)⟩
theorem put_lst {K : PySem.W.Frag} {cl : Cl} {H : Hp} {m : Mp} {p : Addr} {l : List D} {vs ws : List V} (hm : Ab K cl H m) (h : H p = some (.lst ws)) (r : Reps K H l vs) : Ab K cl (upd H p (.lst vs)) (mset m p (.lst l)) :=
  hm.put (ext_lst h) ⟨vs, upd_same, r.mono (ext_lst h)⟩
theorem Reps.nil_iff {K : PySem.W.Frag} {H : Hp} {l : List D} {vs : List V} (r : Reps K H l vs) : vs = [] ↔ l = [] := by
  have e := r.length
  constructor
  · intro h
    subst h
    exact List.eq_nil_of_length_eq_zero e
  · intro h
    subst h
    exact List.eq_nil_of_length_eq_zero e.symm
theorem q_add (ha : QE X cl W a A) (hb : QE X cl W b B) : QE X cl W (.BinOp a .Add b pos) (eBin fAdd A B) :=
  q_bin (op_add.or (op_add_str.or (op_catA.or op_cat))) (fun H m u v x y Q rx ry hm h => by
    unfold fAdd at h
    split at h
    · rename_i i j
      have rx' : x = .int i := rx
      have ry' : y = .int j := ry
      exact .inl ⟨i, j, rx', ry', h _ _ rfl hm (Ext.refl H)⟩
    · rename_i i j
      have rx' : x = .str i := rx
      have ry' : y = .str j := ry
      exact .inr (.inl ⟨i, j, rx', ry', h.1, h.2 _ _ rfl hm (Ext.refl H)⟩)
    · rename_i i j
      obtain ⟨p, vs, rfl, h1, h2⟩ := rx
      obtain ⟨q, ws, rfl, h3, h4⟩ := ry
      refine .inr (.inr (.inl ⟨p, q, vs, ws, rfl, rfl, h1, h3, by rw [← h2.length, ← h4.length]; exact h.1, fun e => ?_, fun _ e => ?_, fun _ _ z hz => ?_⟩))
      · have e' : i = [] := h2.nil_iff.mp e
        subst e'
        exact h.2 _ _ ⟨q, ws, rfl, h3, h4⟩ hm (Ext.refl H)
      · have e' : j = [] := h4.nil_iff.mp e
        subst e'
        rw [List.append_nil] at h
        exact h.2 _ _ ⟨p, vs, rfl, h1, h2⟩ hm (Ext.refl H)
      · exact h.2 _ _ (rep_tup hz (h2.append h4)) (hm.hid hz) (Ext.new hz)
    · rename_i p q
      have rx' : x = .ref p := rx
      have ry' : y = .ref q := ry
      obtain ⟨l, r, h1, h2, h3, h4⟩ := h
      obtain ⟨vs, e1, r1⟩ := hm.1 p _ h1
      obtain ⟨ws, e2, r2⟩ := hm.1 q _ h2
      refine .inr (.inr (.inr ⟨p, q, vs, ws, rx', ry', e1, e2, by rw [← r1.length, ← r2.length]; exact h3, fun z hz => ?_⟩))
      exact h4 z (hm.free hz) _ _ rfl (new_lst hm hz (r1.append r2)) (Ext.new hz)
    · exact h.elim) mono_add ha hb

/-- on ints, under a condition -/
def fI (C : Int → Int → Prop) (g : Int → Int → D) : D → D → Mp → K3 → Prop := fun u v m k => ∃ i j, u = .int i ∧ v = .int j ∧ C i j ∧ k (g i j) m
theorem mono_fI {C : Int → Int → Prop} {g : Int → Int → D} : MonoF (fI C g) := fun u v m k k' hk ⟨i, j, h1, h2, h3, h4⟩ => ⟨i, j, h1, h2, h3, hk _ _ h4⟩
def CT (_ _ : Int) : Prop := True
theorem up_I {C : Int → Int → Prop} {g : Int → Int → D} {g' : Int → Int → V} (r : ∀ H i j, Rep X.K H (g i j) (g' i j)) (H : Hp) (m : Mp) (u v : D) (x y : V) (Q : VK) (rx : Rep X.K H u x) (ry : Rep X.K H v y) (hm : Ab X.K cl H m)
    (h : fI C g u v m (cE X.K cl H Q)) : rI C g' x y H Q := by
  obtain ⟨i, j, rfl, rfl, h3, h4⟩ := h
  exact ⟨i, j, rx, ry, h3, h4 _ _ (r H i j) hm (Ext.refl H)⟩
theorem up_I0 {g : Int → Int → D} {g' : Int → Int → V} (r : ∀ H i j, Rep X.K H (g i j) (g' i j)) (H : Hp) (m : Mp) (u v : D) (x y : V) (Q : VK) (rx : Rep X.K H u x) (ry : Rep X.K H v y) (hm : Ab X.K cl H m)
    (h : fI CT g u v m (cE X.K cl H Q)) : rI0 g' x y H Q := by
  obtain ⟨i, j, rfl, rfl, h3, h4⟩ := h
  exact ⟨i, j, rx, ry, h4 _ _ (r H i j) hm (Ext.refl H)⟩
abbrev fSub := fI CT fun i j => .int (i - j)
abbrev fMulI := fI CMulW fun i j => .int (i * j)
abbrev fDiv := fI CDivW fun i j => .int (i / j)
abbrev fMod := fI (fun _ j => 0 < j) fun i j => .int (i % j)
abbrev fPow := fI CPow fun i j => .int (i ^ j.toNat)
theorem q_sub (ha : QE X cl W a A) (hb : QE X cl W b B) : QE X cl W (.BinOp a .Sub b pos) (eBin fSub A B) := q_bin op_sub (up_I0 fun _ _ _ => rfl) mono_fI ha hb
theorem q_div (ha : QE X cl W a A) (hb : QE X cl W b B) : QE X cl W (.BinOp a .FloorDiv b pos) (eBin fDiv A B) := q_bin op_fdivW (up_I fun _ _ _ => rfl) mono_fI ha hb
theorem q_mod (ha : QE X cl W a A) (hb : QE X cl W b B) : QE X cl W (.BinOp a .Mod b pos) (eBin fMod A B) := q_bin op_mod (up_I fun _ _ _ => rfl) mono_fI ha hb
theorem q_pow (ha : QE X cl W a A) (hb : QE X cl W b B) : QE X cl W (.BinOp a .Pow b pos) (eBin fPow A B) := q_bin op_pow (up_I fun _ _ _ => rfl) mono_fI ha hb
/-- a text so many times -/
def repS (z : Str) (n : Nat) : Str := ⟨(List.replicate n z.cps.toList).flatten.toArray⟩
theorem rep_foldl (z : Array Nat) : ∀ (n : Nat) (a : Array Nat), ((List.replicate n z).foldl (· ++ ·) a).toList = a.toList ++ (List.replicate n z.toList).flatten
  | 0, a => by simp
  | n + 1, a => by
    rw [List.replicate_succ, List.foldl_cons, rep_foldl z n (a ++ z), List.replicate_succ]
    simp
theorem op_mulS : OpR X (binaryOp .Mult) (fun x y H Q => ∃ (z : Str) (n : Int), x = .str z ∧ y = .int n ∧ -1000 ≤ n ∧ n ≤ 1000 ∧ z.length ≤ 1000 ∧ Q (.str (repS z n.toNat)) H) := by
  rintro pins s σ H x y v u Q I rx ry ⟨z, n, rfl, rfl, h1, h2, h3, q⟩
  obtain ⟨t, rfl⟩ := rx
  obtain ⟨t', rfl⟩ := ry
  have hle : ¬ n < 1 → z.length * n.toNat ≤ 1000 * 1000 := fun h => Nat.mul_le_mul h3 (by omega)
  refine PySem.P.mul_str (by rw [decide_eq_false (by omega), decide_eq_false (by omega)]; rfl) (fun h _ => ?_) (fun h _ => ?_) ?_
  · have : (1000 : Int) ≤ (2 ^ 63 - 1) / n := by
      refine (Int.le_ediv_iff_mul_le (by omega)).mpr ?_
      have : (1000 : Int) * n ≤ 1000 * 1000 := Int.mul_le_mul_of_nonneg_left h2 (by decide)
      omega
    omega
  · have := hle h
    unfold Builtin.Str.tooLong
    refine decide_eq_false ?_
    rw [sizeLine_eq]
    omega
  · have e : ∀ {v : Str}, v = repS z n.toNat → repS z n.toNat = v := fun h => h.symm
    by_cases c1 : n < 1
    · rw [if_pos c1]
      have : n.toNat = 0 := by omega
      rw [this] at q
      exact ⟨by decide, .str Str.empty, H, I.tok _, ⟨_, rfl⟩, q⟩
    · rw [if_neg c1]
      by_cases c2 : (n == 1 || z.length == 0) = true
      · rw [if_pos c2]
        have : repS z n.toNat = z := by
          rcases Bool.or_eq_true _ _ |>.mp c2 with c | c
          · have : n = 1 := by simpa using c
            subst this
            show (⟨([z.cps.toList].flatten).toArray⟩ : Str) = z
            simp
          · have c : z.cps.size = 0 := beq_iff_eq.mp c
            have c : z.cps.toList = [] := List.eq_nil_of_length_eq_zero (by rw [Array.length_toList]; exact c)
            unfold repS
            rw [c]
            have : (List.replicate n.toNat ([] : List Nat)).flatten = [] := by simp
            rw [this]
            cases z with
            | mk cps => simp at c; subst c; rfl
        rw [this] at q
        exact ⟨.str z, H, I, ⟨t, rfl⟩, q⟩
      · rw [if_neg c2]
        have er : (⟨(List.replicate n.toNat z.cps).foldl (· ++ ·) #[]⟩ : Str) = repS z n.toNat := by
          unfold repS
          congr 1
          apply Array.toList_inj.mp
          rw [rep_foldl]; simp
        rw [er]
        refine ⟨?_, .str (repS z n.toNat), H, I.tok _, ⟨_, rfl⟩, q⟩
        show (repS z n.toNat).length ≤ sizeLine
        have : (repS z n.toNat).length = n.toNat * z.length := by
          show ((List.replicate n.toNat z.cps.toList).flatten.toArray).size = _
          simp [Str.length]
        rw [this, Nat.mul_comm]
        have := hle c1
        rw [sizeLine_eq]
        omega
/-- * of two factors of together less than a hundred million bits -/
def CMulX (i j : Int) : Prop := i.natAbs.log2 + j.natAbs.log2 < 100000000
theorem op_mulX {X : Cx} : OpR X (binaryOp .Mult) (rI CMulX fun i j => .int (i * j)) := fun pins s σ H x y v u Q I rx ry ⟨i, j, ex, ey, h, q⟩ =>
  L2.op_mulX pins s σ H x y v u Q I rx ry ⟨i, j, ex, ey, L2.mulx_ok Nat.lt_log2_self Nat.lt_log2_self (by unfold CMulX at h; omega), q⟩
/-- *: ints; a tuple so many times -/
def fMul : D → D → Mp → K3 → Prop
  | .int i, .int j, m, k => CMulX i j ∧ k (.int (i * j)) m
  | .str z, .int n, m, k => -1000 ≤ n ∧ n ≤ 1000 ∧ z.length ≤ 1000 ∧ k (.str (repS z n.toNat)) m
  | .tup l, .int n, m, k => l ≠ [] ∧ 2 ≤ n ∧ n ≤ 1000 ∧ l.length ≤ 1000 ∧ k (.tup (List.replicate n.toNat l).flatten) m
  | .ref p, .int n, m, k => ∃ l, m p = some (.lst l) ∧ 0 ≤ n ∧ n ≤ 1000 ∧ l.length ≤ 1000 ∧ ∀ z, m z = none → k (.ref z) (mset m z (.lst (List.replicate n.toNat l).flatten))
  | _, _, _, _ => False
theorem mono_mul : MonoF fMul := fun u v m k k' hk h => by
  unfold fMul at h ⊢
  split at h <;> first
    | exact ⟨h.1, hk _ _ h.2⟩
    | exact ⟨h.1, h.2.1, h.2.2.1, hk _ _ h.2.2.2⟩
    | exact ⟨h.1, h.2.1, h.2.2.1, h.2.2.2.1, hk _ _ h.2.2.2.2⟩
    | (obtain ⟨l, h1, h2, h3, h4, h5⟩ := h; exact ⟨l, h1, h2, h3, h4, fun z hz => hk _ _ (h5 z hz)⟩)
    | exact h.elim
theorem q_mul (ha : QE X cl W a A) (hb : QE X cl W b B) : QE X cl W (.BinOp a .Mult b pos) (eBin fMul A B) :=
  q_bin ((op_mulX.or (op_repT.or op_rep)).or op_mulS) (fun H m u v x y Q rx ry hm h => by
    unfold fMul at h
    split at h
    · rename_i i j
      have rx' : x = .int i := rx
      have ry' : y = .int j := ry
      exact .inl (.inl ⟨i, j, rx', ry', h.1, h.2 _ _ rfl hm (Ext.refl H)⟩)
    · rename_i z n
      have rx' : x = .str z := rx
      have ry' : y = .int n := ry
      exact .inr ⟨z, n, rx', ry', h.1, h.2.1, h.2.2.1, h.2.2.2 _ _ rfl hm (Ext.refl H)⟩
    · rename_i l n
      obtain ⟨p, vs, rfl, h1, h2⟩ := rx
      have ry' : y = .int n := ry
      obtain ⟨c1, c2, c3, c4, h⟩ := h
      refine .inl (.inr (.inl ⟨p, n, vs, rfl, ry', h1, fun e => c1 (h2.nil_iff.mp e), c2, c3, by rw [← h2.length]; exact c4, fun z hz => ?_⟩))
      exact h _ _ (rep_tup hz (h2.rep _)) (hm.hid hz) (Ext.new hz)
    · rename_i p n
      have rx' : x = .ref p := rx
      have ry' : y = .int n := ry
      obtain ⟨l, c1, c2, c3, c4, h⟩ := h
      obtain ⟨vs, e1, r1⟩ := hm.1 p _ c1
      refine .inl (.inr (.inr ⟨p, n, vs, rx', ry', e1, by omega, by omega, ?_, fun z hz => ?_⟩))
      · rw [← r1.length, sizeLine_eq]
        have : l.length * n.toNat ≤ 1000 * 1000 := Nat.mul_le_mul c4 (by omega)
        omega
      · exact h z (hm.free hz) _ _ rfl (new_lst hm hz (r1.rep _)) (Ext.new hz)
    · exact h.elim) mono_mul ha hb

/-- - -/
def eNeg (A : TE3) : TE3 := fun s m k x => A s m (fun u m1 => ∃ i, u = .int i ∧ k (.int (-i)) m1) x
theorem q_neg (ha : QE X cl W a A) : QE X cl W (.UnaryOp .USub a pos) (eNeg A) :=
  ⟨fun s m k k' x x' hk hx h => ha.mono _ _ _ _ _ _ (fun u m1 ⟨i, h1, h2⟩ => ⟨i, h1, hk _ _ h2⟩) hx h,
   PE.imp (pe_un un_neg ha.run) fun σ H Q ⟨s, m, hs, hm, h⟩ => ⟨s, m, hs, hm, ha.mono _ _ _ _ _ _ (fun u m1 ⟨i, h1, h2⟩ v H' r a e => by
    subst h1
    have r' : v = .int i := r
    exact ⟨i, r', h2 _ _ rfl a e⟩) (fun _ _ z => z) h⟩⟩

/-! ### == of data -/
mutual
/-- d read as data: lists by what they hold now -/
inductive DP (m : Mp) : D → PyData → Prop
  | non : DP m .non .none
  | bl (b : Bool) : DP m (.bl b) (.bool b)
  | int (i : Int) : DP m (.int i) (.int i)
  | str (x : Str) : DP m (.str x) (.str x)
  | lst {a : Addr} {l : List D} {ds : List PyData} : RL m a l → DPs m l ds → DP m (.ref a) (.list ds)
  | tup {l : List D} {ds : List PyData} : DPs m l ds → DP m (.tup l) (.tuple ds)
inductive DPs (m : Mp) : List D → List PyData → Prop
  | nil : DPs m [] []
  | cons {v : D} {vs : List D} {d : PyData} {ds : List PyData} : DP m v d → DPs m vs ds → DPs m (v :: vs) (d :: ds)
end
mutual
theorem DP.dp {m : Mp} {K : PySem.W.Frag} {cl : Cl} {H : Hp} (hm : Ab K cl H m) : ∀ {p : PyData} {d : D} {v : V}, DP m d p → Rep K H d v → Dp K H v p
  | .none, _, _, h, r => by cases h; cases r; exact .non
  | .bool b, _, _, h, r => by cases h; cases r; exact .bl b
  | .int b, _, _, h, r => by cases h; cases r; exact .int b
  | .str b, _, _, h, r => by cases h; cases r; exact .str b
  | .list ds, _, _, h, r => by
    cases h with
    | lst h1 h2 =>
      cases r
      obtain ⟨vs, q1, q2⟩ := hm.rl h1
      exact .lst q1 (DPs.dp hm h2 q2)
  | .tuple ds, _, _, h, r => by
    cases h with
    | tup h2 =>
      obtain ⟨a, vs, rfl, q1, q2⟩ := r
      exact .tup q1 (DPs.dp hm h2 q2)
  | .dict _, _, _, h, _ => by cases h
theorem DPs.dp {m : Mp} {K : PySem.W.Frag} {cl : Cl} {H : Hp} (hm : Ab K cl H m) : ∀ {ps : List PyData} {ds : List D} {vs : List V}, DPs m ds ps → Reps K H ds vs → DpAll K H vs ps
  | [], _, _, h, r => by cases h; cases r; exact .nil
  | p :: ps, _, _, h, r => by
    cases h with
    | cons h1 h2 =>
      obtain ⟨v, vs, rfl, r1, r2⟩ := r
      exact .cons (DP.dp hm h1 r1) (DPs.dp hm h2 r2)
end
mutual
theorem DP.plain {m : Mp} : ∀ {p : PyData} {d : D}, DP m d p → p.plain = true
  | .none, _, _ => rfl
  | .bool b, _, _ => rfl
  | .int b, _, _ => rfl
  | .str b, _, _ => rfl
  | .list ds, _, h => by
    cases h with
    | lst h1 h2 => exact DPs.plain h2
  | .tuple ds, _, h => by
    cases h with
    | tup h2 => exact DPs.plain h2
  | .dict _, _, h => by cases h
theorem DPs.plain {m : Mp} : ∀ {ps : List PyData} {ds : List D}, DPs m ds ps → PyData.plainAll ps = true
  | [], _, _ => rfl
  | p :: ps, _, h => by
    cases h with
    | cons h1 h2 => unfold PyData.plainAll; rw [DP.plain h1, DPs.plain h2]; rfl
end
def PEq (d e : PyData) : Prop := min d.depth e.depth ≤ 64
/-! ### comparisons -/
/-- <, <=, >, >= of ints; < of texts -/
def fLt : D → D → Mp → K3 → Prop
  | .int i, .int j, m, k => k (.bl (decide (i < j))) m
  | .str i, .str j, m, k => k (.bl (decide (i.cps.toList < j.cps.toList))) m
  | u, v, m, k => ∃ d e, DP m u d ∧ DP m v e ∧ PEq d e ∧ PySem.W.alike d e = true ∧ d ≠ .none ∧ k (.bl (PySem.W.dataLt d e)) m
theorem mono_lt : MonoF fLt := fun u v m k k' hk h => by
  unfold fLt at h ⊢
  split at h <;> first | exact hk _ _ h | skip
  · obtain ⟨d, e, a1, a2, a3, a4, a5, a6⟩ := h
    exact ⟨d, e, a1, a2, a3, a4, a5, hk _ _ a6⟩
theorem reads_both {X : Cx} {pins : List (Addr × Obj)} {σ : L2.St} {H : Hp} {s : Shared} {x y : V} {v u : Value} {d e : PyData} (I : Inv X pins σ H s) (hd : Dp X.K H x d) (he : Dp X.K H y e) (rx : RelV x v) (ry : RelV y u) : ∃ as bs, Reads s.heap v d as ∧ Reads s.heap u e bs :=
  have ⟨as, r1⟩ := Dp.reads I _ _ _ hd rx
  have ⟨bs, r2⟩ := Dp.reads I _ _ _ he ry
  ⟨as, bs, r1, r2⟩
def rLtP (K : PySem.W.Frag) : R2 := fun x y H Q => ∃ d e, Dp K H x d ∧ Dp K H y e ∧ PEq d e ∧ PySem.W.alike d e = true ∧ d ≠ .none ∧ Q (.bl (PySem.W.dataLt d e)) H
theorem op_ltP (hu : X.A.units + 64 < cLine) : OpR X (compareOp .Lt) (rLtP X.K) := by
  rintro pins s σ H x y v u Q I rx ry ⟨d, e, hd, he, pe, al, nn, q⟩
  have ⟨as, bs, r1, r2⟩ := reads_both I hd he rx ry
  unfold PEq at pe
  exact PySem.W.lt_data r1 r2 al nn (by omega) ⟨.bl _, H, I, rfl, q⟩
theorem q_lt (hu : X.A.units + 64 < cLine) (ha : QE X cl W a A) (hb : QE X cl W b B) : QE X cl W (.Compare a [.Lt] [b] pos) (eBin fLt A B) :=
  q_cmp ((op_lt.or op_lt_str).or (op_ltP hu)) (fun H m u v x y Q rx ry hm h => by
    unfold fLt at h
    split at h
    · rename_i i j
      exact .inl (.inl ⟨i, j, rx, ry, h _ _ rfl hm (Ext.refl H)⟩)
    · rename_i i j
      exact .inl (.inr ⟨i, j, rx, ry, h _ _ rfl hm (Ext.refl H)⟩)
    · obtain ⟨d, e, h1, h2, h3, h4, h5, h6⟩ := h
      exact .inr ⟨d, e, h1.dp hm rx, h2.dp hm ry, h3, h4, h5, h6 _ _ rfl hm (Ext.refl H)⟩) mono_lt ha hb (nomark _)
abbrev fLe := fI CT fun i j => .bl (decide (i ≤ j))
abbrev fGt := fI CT fun i j => .bl (decide (j < i))
abbrev fGe := fI CT fun i j => .bl (decide (j ≤ i))
theorem q_le (ha : QE X cl W a A) (hb : QE X cl W b B) : QE X cl W (.Compare a [.LtE] [b] pos) (eBin fLe A B) := q_cmp op_le (up_I0 fun _ _ _ => rfl) mono_fI ha hb (nomark _)
theorem q_gt (ha : QE X cl W a A) (hb : QE X cl W b B) : QE X cl W (.Compare a [.Gt] [b] pos) (eBin fGt A B) := q_cmp op_gt (up_I0 fun _ _ _ => rfl) mono_fI ha hb (nomark _)
theorem q_ge (ha : QE X cl W a A) (hb : QE X cl W b B) : QE X cl W (.Compare a [.GtE] [b] pos) (eBin fGe A B) := q_cmp op_ge (up_I0 fun _ _ _ => rfl) mono_fI ha hb (nomark _)
/-- two comparisons of ints in a chain: <= <=, < <, <= < -/
def eChain (p q : Int → Int → Bool) (A B C : TE3) : TE3 := fun s m k x => A s m (fun u m1 => B s m1 (fun v m2 => ∃ i j, u = .int i ∧ v = .int j ∧ if p i j = true then C s m2 (fun w m3 => ∃ l, w = .int l ∧ k (.bl (q j l)) m3) x else k (.bl false) m2) x) x
theorem q_chain {op op' : CmpOp} {p q : Int → Int → Bool} (ho : OpR X (compareOp op) (rI0 fun i j => .bl (p i j))) (ho' : OpR X (compareOp op') (rI0 fun i j => .bl (q i j))) (n1 : op ≠ .In) (n2 : op ≠ .NotIn) (n3 : op' ≠ .In) (n4 : op' ≠ .NotIn)
    (ha : QE X cl W a A) (hb : QE X cl W b B) (hc : QE X cl W c C) : QE X cl W (.Compare a [op, op'] [b, c] pos) (eChain p q A B C) :=
  ⟨fun s m k k' x x' hk hx h => ha.mono _ _ _ _ _ _ (fun u m1 h1 => hb.mono _ _ _ _ _ _ (fun v m2 ⟨i, j, e1, e2, h2⟩ => ⟨i, j, e1, e2, by
      split at h2
      · rename_i z
        rw [if_pos z]
        exact hc.mono _ _ _ _ _ _ (fun w m3 ⟨l, e3, h3⟩ => ⟨l, e3, hk _ _ h3⟩) hx h2
      · rename_i z
        rw [if_neg z]
        exact hk _ _ h2⟩) hx h1) hx h,
   PE.imp (pe_chain ho ho' ha.run hb.run hc.run (show behindInMarks op' c = false from nobehind _ n3 n4)) fun σ H Q ⟨s, m, hs, hm, h⟩ => by
    refine ⟨s, m, hs, hm, ha.mono _ _ _ _ _ _ (fun u m1 h1 x H1 rx hm1 e1 => ?_) (fun _ _ z => z) h⟩
    refine ⟨s, m1, hs.mono e1, hm1, hb.mono _ _ _ _ _ _ (fun v m2 h2 y H2 ry hm2 e2 => ?_) (fun _ _ z => cX_ext e1 z) h1⟩
    obtain ⟨i, j, rfl, rfl, h3⟩ := h2
    refine ⟨i, j, rx, ry, p i j, rfl, ?_⟩
    split at h3
    · rename_i z
      rw [if_pos z]
      refine ⟨s, m2, hs.mono (e1.trans e2), hm2, hc.mono _ _ _ _ _ _ (fun w m3 ⟨l, e3, h4⟩ z H3 rz hm3 e4 => ?_) (fun _ _ z => cX_ext (e1.trans e2) z) h3⟩
      subst e3
      have ry' : y = .int j := ry
      exact ⟨j, l, ry', rz, h4 _ _ rfl hm3 ((e1.trans e2).trans e4)⟩
    · rename_i z
      rw [if_neg z]
      exact h3 _ _ rfl hm2 (e1.trans e2)⟩

/-! ### == -/
def fEq : D → D → Mp → K3 → Prop := fun u v m k => ∃ d e, DP m u d ∧ DP m v e ∧ PEq d e ∧ k (.bl (PyData.eqv d e)) m
def fNe : D → D → Mp → K3 → Prop := fun u v m k => ∃ d e, DP m u d ∧ DP m v e ∧ PEq d e ∧ k (.bl (!PyData.eqv d e)) m
def rEqP (K : PySem.W.Frag) : R2 := fun x y H Q => ∃ d e, Dp K H x d ∧ Dp K H y e ∧ d.plain = true ∧ e.plain = true ∧ PEq d e ∧ Q (.bl (PyData.eqv d e)) H
def rNeP (K : PySem.W.Frag) : R2 := fun x y H Q => ∃ d e, Dp K H x d ∧ Dp K H y e ∧ d.plain = true ∧ e.plain = true ∧ PEq d e ∧ Q (.bl (!PyData.eqv d e)) H
theorem op_eqP (hu : X.A.units + 64 < cLine) : OpR X (compareOp .Eq) (rEqP X.K) := by
  rintro pins s σ H x y v u Q I rx ry ⟨d, e, hd, he, sd, se, pe, q⟩
  have ⟨as, bs, r1, r2⟩ := reads_both I hd he rx ry
  unfold PEq at pe
  exact SeqAt.eq_plain r1 r2 sd se (by omega) ⟨.bl _, H, I, rfl, q⟩
theorem op_neP (hu : X.A.units + 64 < cLine) : OpR X (compareOp .NotEq) (rNeP X.K) := by
  rintro pins s σ H x y v u Q I rx ry ⟨d, e, hd, he, sd, se, pe, q⟩
  have ⟨as, bs, r1, r2⟩ := reads_both I hd he rx ry
  unfold PEq at pe
  exact SeqAt.ne_plain r1 r2 sd se (by omega) ⟨.bl _, H, I, rfl, q⟩
theorem mono_fEq : MonoF fEq := fun u v m k k' hk ⟨d, e, h1, h2, h3, h4⟩ => ⟨d, e, h1, h2, h3, hk _ _ h4⟩
theorem mono_fNe : MonoF fNe := fun u v m k k' hk ⟨d, e, h1, h2, h3, h4⟩ => ⟨d, e, h1, h2, h3, hk _ _ h4⟩
theorem q_eq (hu : X.A.units + 64 < cLine) (ha : QE X cl W a A) (hb : QE X cl W b B) : QE X cl W (.Compare a [.Eq] [b] pos) (eBin fEq A B) :=
  q_cmp (op_eqP hu) (fun H m u v x y Q rx ry hm ⟨d, e, h1, h2, h3, h4⟩ => ⟨d, e, h1.dp hm rx, h2.dp hm ry, h1.plain, h2.plain, h3, h4 _ _ rfl hm (Ext.refl H)⟩) mono_fEq ha hb (nomark _)
theorem q_ne (hu : X.A.units + 64 < cLine) (ha : QE X cl W a A) (hb : QE X cl W b B) : QE X cl W (.Compare a [.NotEq] [b] pos) (eBin fNe A B) :=
  q_cmp (op_neP hu) (fun H m u v x y Q rx ry hm ⟨d, e, h1, h2, h3, h4⟩ => ⟨d, e, h1.dp hm rx, h2.dp hm ry, h1.plain, h2.plain, h3, h4 _ _ rfl hm (Ext.refl H)⟩) mono_fNe ha hb (nomark _)

/-! ### in: a list, a tuple of data; one sign (or any text) in a text -/
def inB (neg : Bool) (b : Bool) : D := .bl (if neg then !b else b)
/-- looked up in a dict: what stands there, if a thing stands -/
def DG (m : Mp) (a : Addr) (y : D) (o : Option D) : Prop := ∃ kvs k, (m a = some (.dK kvs) ∨ m a = some (.rdK kvs)) ∧ y = keyD k ∧ o = getD kvs k
theorem DG.up {K : PySem.W.Frag} {H : Hp} {m : Mp} {a : Addr} {y : D} {v : V} {o : Option D} (g : DG m a y o) (hm : Ab K cl H m) (ry : Rep K H y v) :
    ∃ ov, DGet H a v ov ∧ ((o = none ∧ ov = none) ∨ ∃ d w, o = some d ∧ ov = some w ∧ Rep K H d w) := by
  obtain ⟨kvs, k, h1, rfl, rfl⟩ := g
  have ev := rep_key ry
  subst ev
  rcases h1 with h1 | h1
  · obtain ⟨kws, q1, q2⟩ := hm.1 a _ h1
    refine ⟨_, .inl ⟨kws, k, .inl q1, rfl, rfl⟩, ?_⟩
    rcases q2.val k with ⟨e1, e2⟩ | ⟨d, w, e1, e2, e3⟩
    · exact .inl ⟨e1, e2⟩
    · exact .inr ⟨d, w, e1, e2, e3⟩
  · obtain ⟨ob, kws, q1, q2⟩ := hm.1 a _ h1
    refine ⟨_, .inl ⟨kws, k, .inr ⟨ob, q1⟩, rfl, rfl⟩, ?_⟩
    rcases q2.val k with ⟨e1, e2⟩ | ⟨d, w, e1, e2, e3⟩
    · exact .inl ⟨e1, e2⟩
    · exact .inr ⟨d, w, e1, e2, e3⟩
theorem op_inD (hu : X.A.units + 1 < cLine) : OpR X (compareOp .In) (fun x y H Q => ∃ a o, y = .ref a ∧ DGet H a x o ∧ Q (.bl o.isSome) H) := by
  rintro pins s σ H x y v u Q I rx ry ⟨a, o, rfl, g, q⟩
  cases ry
  exact d_in hu I g rx fun s3 I3 => ⟨.bl o.isSome, H, I3, rfl, q⟩
theorem op_notInD (hu : X.A.units + 1 < cLine) : OpR X (compareOp .NotIn) (fun x y H Q => ∃ a o, y = .ref a ∧ DGet H a x o ∧ Q (.bl (!o.isSome)) H) := by
  rintro pins s σ H x y v u Q I rx ry ⟨a, o, rfl, g, q⟩
  cases ry
  exact d_notIn hu I g rx fun s3 I3 => ⟨.bl (!o.isSome), H, I3, rfl, q⟩
def fIn (neg : Bool) : D → D → Mp → K3 → Prop := fun u v m k =>
  (∃ d l ds, DP m u d ∧ ((∃ p, v = .ref p ∧ RL m p l) ∨ v = .tup l) ∧ DPs m l ds ∧ d.depth ≤ 64 ∧ k (inB neg (ds.any fun y => PyData.eqv y d)) m) ∨
  (∃ i j, u = .str i ∧ v = .str j ∧ k (inB neg (!(Builtin.Str.occurrences j i 0 j.length 1).isEmpty)) m) ∨
  ∃ a o, v = .ref a ∧ DG m a u o ∧ k (inB neg o.isSome) m
theorem mono_fIn {neg : Bool} : MonoF (fIn neg) := fun u v m k k' hk h => by
  rcases h with ⟨d, l, ds, h1, h2, h3, h4, h5⟩ | ⟨i, j, h1, h2, h3⟩ | ⟨a, o, h1, h2, h3⟩
  · exact .inl ⟨d, l, ds, h1, h2, h3, h4, hk _ _ h5⟩
  · exact .inr (.inl ⟨i, j, h1, h2, hk _ _ h3⟩)
  · exact .inr (.inr ⟨a, o, h1, h2, hk _ _ h3⟩)
def rInP (K : PySem.W.Frag) (neg : Bool) : R2 := fun x y H Q => ∃ d e ds, Dp K H x d ∧ Dp K H y e ∧ (e = .list ds ∨ e = .tuple ds) ∧ d.plain = true ∧ PyData.plainAll ds = true ∧ d.depth ≤ 64 ∧ Q (.bl (if neg then !(ds.any fun y => PyData.eqv y d) else ds.any fun y => PyData.eqv y d)) H
theorem op_inP (hu : X.A.units + 64 + 2 < cLine) : OpR X (compareOp .In) (rInP X.K false) := by
  rintro pins s σ H x y v u Q I rx ry ⟨d, e, ds, hd, he, hs, p1, p2, p3, q⟩
  have ⟨as, bs, r1, r2⟩ := reads_both I hd he rx ry
  have z : X.A.units + 1 + min (PyData.depthAll ds) d.depth < cLine := by have : min (PyData.depthAll ds) d.depth ≤ d.depth := Nat.min_le_right _ _; omega
  rcases hs with rfl | rfl
  · exact SeqAt.in_list_data r2 r1 p2 p1 z ⟨.bl _, H, I, rfl, q⟩
  · exact SeqAt.in_tuple_data r2 r1 p2 p1 z ⟨.bl _, H, I, rfl, q⟩
theorem op_notInP (hu : X.A.units + 64 + 2 < cLine) : OpR X (compareOp .NotIn) (rInP X.K true) := by
  rintro pins s σ H x y v u Q I rx ry ⟨d, e, ds, hd, he, hs, p1, p2, p3, q⟩
  have ⟨as, bs, r1, r2⟩ := reads_both I hd he rx ry
  have z : X.A.units + 1 + min (PyData.depthAll ds) d.depth < cLine := by have : min (PyData.depthAll ds) d.depth ≤ d.depth := Nat.min_le_right _ _; omega
  rcases hs with rfl | rfl
  · exact SeqAt.notIn_list_data r2 r1 p2 p1 z ⟨.bl _, H, I, rfl, q⟩
  · exact SeqAt.notIn_tuple_data r2 r1 p2 p1 z ⟨.bl _, H, I, rfl, q⟩
theorem up_in {neg : Bool} {rs rd : R2} (hs : ∀ i j H Q, Q (.bl (if neg then !(!(Builtin.Str.occurrences j i 0 j.length 1).isEmpty) else !(Builtin.Str.occurrences j i 0 j.length 1).isEmpty)) H → rs (.str i) (.str j) H Q)
    (hd : ∀ x a ov H Q, DGet H a x ov → Q (.bl (if neg then !ov.isSome else ov.isSome)) H → rd x (.ref a) H Q) (H : Hp) (m : Mp) (u v : D) (x y : V) (Q : VK) (rx : Rep X.K H u x) (ry : Rep X.K H v y) (hm : Ab X.K cl H m)
    (h : fIn neg u v m (cE X.K cl H Q)) : (rInP X.K neg x y H Q ∨ rs x y H Q) ∨ rd x y H Q := by
  rcases h with ⟨d, l, ds, h1, h2, h3, h4, h5⟩ | ⟨i, j, rfl, rfl, h3⟩ | ⟨a, o, rfl, h2, h3⟩
  · refine .inl (.inl ?_)
    rcases h2 with ⟨p, rfl, h2⟩ | rfl
    · exact ⟨d, _, ds, h1.dp hm rx, (DP.lst h2 h3).dp hm ry, .inl rfl, h1.plain, h3.plain, h4, h5 _ _ rfl hm (Ext.refl H)⟩
    · exact ⟨d, _, ds, h1.dp hm rx, (DP.tup h3).dp hm ry, .inr rfl, h1.plain, h3.plain, h4, h5 _ _ rfl hm (Ext.refl H)⟩
  · have rx' : x = .str i := rx
    have ry' : y = .str j := ry
    subst rx' ry'
    exact .inl (.inr (hs i j H Q (h3 _ _ rfl hm (Ext.refl H))))
  · have ry' : y = .ref a := ry
    subst ry'
    obtain ⟨ov, g, e⟩ := h2.up hm rx
    refine .inr (hd _ _ ov H Q g ?_)
    have := h3 _ _ rfl hm (Ext.refl H)
    rcases e with ⟨rfl, rfl⟩ | ⟨d, w, rfl, rfl, _⟩ <;> exact this
theorem q_in (hu : X.A.units + 64 + 2 < cLine) (ha : QE X cl W a A) (hb : QE X cl W b B) (hm : behindInMarks .In b = false) : QE X cl W (.Compare a [.In] [b] pos) (eBin (fIn false) A B) :=
  q_cmp (((op_inP hu).or op_in_str).or (op_inD (by omega))) (up_in (fun i j H Q q => ⟨i, j, rfl, rfl, q⟩) fun x a ov H Q g q => ⟨a, ov, rfl, g, q⟩) mono_fIn ha hb hm
theorem q_notin (hu : X.A.units + 64 + 2 < cLine) (ha : QE X cl W a A) (hb : QE X cl W b B) (hm : behindInMarks .NotIn b = false) : QE X cl W (.Compare a [.NotIn] [b] pos) (eBin (fIn true) A B) :=
  q_cmp (((op_notInP hu).or op_notin_str).or (op_notInD (by omega))) (up_in (fun i j H Q q => ⟨i, j, rfl, rfl, q⟩) fun x a ov H Q g q => ⟨a, ov, rfl, g, q⟩) mono_fIn ha hb hm

/-! ### is None; is True -/
def isD (u v : D) : Option Bool := match u, v with
  | .non, .non => some true
  | .bl i, .bl j => some (decide (i = j))
  | _, .non => some false
  | _, _ => none
def fIs (neg : Bool) : D → D → Mp → K3 → Prop := fun u v m k => ∃ b, isD u v = some b ∧ k (inB neg b) m
theorem mono_fIs {neg : Bool} : MonoF (fIs neg) := fun u v m k k' hk ⟨b, h1, h2⟩ => ⟨b, h1, hk _ _ h2⟩
theorem rep_non {K : PySem.W.Frag} {H : Hp} {d : D} {v : V} (r : Rep K H d v) : v = .non ↔ d = .non := by
  constructor
  · intro e
    subst e
    cases d with
    | non => rfl
    | tup l => obtain ⟨a, vs, q, _⟩ := r; cases q
    | _ => exact absurd r (by intro z; cases z)
  · intro e; subst e; exact r
theorem up_is {neg : Bool} {r1 r2 : R2} (h1 : ∀ x H Q, Q (.bl (if neg then !decide (x = V.non) else decide (x = V.non))) H → r1 x .non H Q) (h2 : ∀ a b H Q, Q (.bl (if neg then !decide (a = b) else decide (a = b))) H → r2 (.bl a) (.bl b) H Q)
    (H : Hp) (m : Mp) (u v : D) (x y : V) (Q : VK) (rx : Rep X.K H u x) (ry : Rep X.K H v y) (hm : Ab X.K cl H m) (h : fIs neg u v m (cE X.K cl H Q)) : r1 x y H Q ∨ r2 x y H Q := by
  obtain ⟨b, e, h⟩ := h
  by_cases hv : v = .non
  · subst hv
    have ry' : y = .non := ry
    subst ry'
    refine .inl (h1 x H Q ?_)
    have q : b = decide (x = V.non) := by
      cases u <;> simp only [isD, Option.some.injEq] at e <;> subst e <;> symm
      case non => have rx' : x = .non := rx; subst rx'; rfl
      all_goals
        rw [decide_eq_false_iff_not]
        intro z
        have := (rep_non rx).mp z
        cases this
    have := h _ _ rfl hm (Ext.refl H)
    rw [q] at this
    exact this
  · cases u <;> cases v <;> simp only [isD] at e <;> first | exact absurd rfl hv | cases e
    rename_i i j
    have rx' : x = .bl i := rx
    have ry' : y = .bl j := ry
    subst rx' ry'
    exact .inr (h2 i j H Q (h _ _ rfl hm (Ext.refl H)))
theorem q_is (ha : QE X cl W a A) (hb : QE X cl W b B) : QE X cl W (.Compare a [.Is] [b] pos) (eBin (fIs false) A B) :=
  q_cmp (op_isN.or op_isBl) (up_is (fun x H Q q => ⟨rfl, q⟩) fun a b H Q q => ⟨a, b, rfl, rfl, q⟩) mono_fIs ha hb (nomark _)
theorem q_isnot (ha : QE X cl W a A) (hb : QE X cl W b B) : QE X cl W (.Compare a [.IsNot] [b] pos) (eBin (fIs true) A B) :=
  q_cmp (op_notN.or op_notBl) (up_is (fun x H Q q => ⟨rfl, q⟩) fun a b H Q q => ⟨a, b, rfl, rfl, q⟩) mono_fIs ha hb (nomark _)
end
end PV

/-! Tests, displays, subscripts, calls. -/
namespace PV
open PySem L2 PyProof.Rows
section
variable {X : Cx} {cl : Cl} {W : WX} {a b c : Expr} {A B C : TE3} {TA TB : TT3} {rest : List Expr} {pos : Pos}

/-! ### tests -/
def tBv (T : TE3) : TT3 := fun s m k x => T s m (fun d m1 => ∃ b, d = .bl b ∧ k b m1) x
theorem mono_tBv (h : MonoE A) : MonoT (tBv A) := fun s m k k' x x' hk hx q => h _ _ _ _ _ _ (fun d m ⟨b, e, z⟩ => ⟨b, e, hk _ _ z⟩) hx q
theorem upT_tBv (h : MonoE A) (σ : L2.St) (H : Hp) (Q : Bool → Hp → Prop) (q : upT X.K cl W (tBv A) σ H Q) : upE X.K cl W A σ H fun x H' => ∃ k, x = .bl k ∧ Q k H' := by
  obtain ⟨s, m, hs, hm, q⟩ := q
  exact ⟨s, m, hs, hm, h _ _ _ _ _ _ (fun d m ⟨b, e, z⟩ v H' r a e' => ⟨b, by subst e; exact r, z H' a e'⟩) (fun _ _ z => z) q⟩
theorem t_cmp {op : CmpOp} {r : R2} {f : D → D → Mp → K3 → Prop} (ho : OpR X (compareOp op) r)
    (hf : ∀ (H : Hp) (m : Mp) (u v : D) (x y : V) (Q : VK), Rep X.K H u x → Rep X.K H v y → Ab X.K cl H m → f u v m (cE X.K cl H Q) → r x y H Q) (mf : MonoF f)
    (ha : QE X cl W a A) (hb : QE X cl W b B) (hm : behindInMarks op b = false) : QT X cl W (.Compare a [op] [b] pos) (tBv (eBin f A B)) :=
  ⟨mono_tBv (mono_bin mf ha.mono hb.mono), PT.imp (pt_cmpR ho ha.run hb.run hm) fun σ H Q q => two_up ha.mono hb.mono hf mf σ H _ (upT_tBv (mono_bin mf ha.mono hb.mono) σ H Q q)⟩
theorem t_lt (hu : X.A.units + 64 < cLine) (ha : QE X cl W a A) (hb : QE X cl W b B) : QT X cl W (.Compare a [.Lt] [b] pos) (tBv (eBin fLt A B)) :=
  t_cmp ((op_lt.or op_lt_str).or (op_ltP hu)) (fun H m u v x y Q rx ry hm h => by
    unfold fLt at h
    split at h
    · rename_i i j
      exact .inl (.inl ⟨i, j, rx, ry, h _ _ rfl hm (Ext.refl H)⟩)
    · rename_i i j
      exact .inl (.inr ⟨i, j, rx, ry, h _ _ rfl hm (Ext.refl H)⟩)
    · obtain ⟨d, e, h1, h2, h3, h4, h5, h6⟩ := h
      exact .inr ⟨d, e, h1.dp hm rx, h2.dp hm ry, h3, h4, h5, h6 _ _ rfl hm (Ext.refl H)⟩) mono_lt ha hb (nomark _)
theorem t_le (ha : QE X cl W a A) (hb : QE X cl W b B) : QT X cl W (.Compare a [.LtE] [b] pos) (tBv (eBin fLe A B)) := t_cmp op_le (up_I0 fun _ _ _ => rfl) mono_fI ha hb (nomark _)
theorem t_gt (ha : QE X cl W a A) (hb : QE X cl W b B) : QT X cl W (.Compare a [.Gt] [b] pos) (tBv (eBin fGt A B)) := t_cmp op_gt (up_I0 fun _ _ _ => rfl) mono_fI ha hb (nomark _)
theorem t_ge (ha : QE X cl W a A) (hb : QE X cl W b B) : QT X cl W (.Compare a [.GtE] [b] pos) (tBv (eBin fGe A B)) := t_cmp op_ge (up_I0 fun _ _ _ => rfl) mono_fI ha hb (nomark _)
theorem t_eq (hu : X.A.units + 64 < cLine) (ha : QE X cl W a A) (hb : QE X cl W b B) : QT X cl W (.Compare a [.Eq] [b] pos) (tBv (eBin fEq A B)) :=
  t_cmp (op_eqP hu) (fun H m u v x y Q rx ry hm ⟨d, e, h1, h2, h3, h4⟩ => ⟨d, e, h1.dp hm rx, h2.dp hm ry, h1.plain, h2.plain, h3, h4 _ _ rfl hm (Ext.refl H)⟩) mono_fEq ha hb (nomark _)
theorem t_ne (hu : X.A.units + 64 < cLine) (ha : QE X cl W a A) (hb : QE X cl W b B) : QT X cl W (.Compare a [.NotEq] [b] pos) (tBv (eBin fNe A B)) :=
  t_cmp (op_neP hu) (fun H m u v x y Q rx ry hm ⟨d, e, h1, h2, h3, h4⟩ => ⟨d, e, h1.dp hm rx, h2.dp hm ry, h1.plain, h2.plain, h3, h4 _ _ rfl hm (Ext.refl H)⟩) mono_fNe ha hb (nomark _)
theorem t_in (hu : X.A.units + 64 + 2 < cLine) (ha : QE X cl W a A) (hb : QE X cl W b B) (hm : behindInMarks .In b = false) : QT X cl W (.Compare a [.In] [b] pos) (tBv (eBin (fIn false) A B)) :=
  t_cmp (((op_inP hu).or op_in_str).or (op_inD (by omega))) (up_in (fun i j H Q q => ⟨i, j, rfl, rfl, q⟩) fun x a ov H Q g q => ⟨a, ov, rfl, g, q⟩) mono_fIn ha hb hm
theorem t_notin (hu : X.A.units + 64 + 2 < cLine) (ha : QE X cl W a A) (hb : QE X cl W b B) (hm : behindInMarks .NotIn b = false) : QT X cl W (.Compare a [.NotIn] [b] pos) (tBv (eBin (fIn true) A B)) :=
  t_cmp (((op_notInP hu).or op_notin_str).or (op_notInD (by omega))) (up_in (fun i j H Q q => ⟨i, j, rfl, rfl, q⟩) fun x a ov H Q g q => ⟨a, ov, rfl, g, q⟩) mono_fIn ha hb hm
theorem t_is (ha : QE X cl W a A) (hb : QE X cl W b B) : QT X cl W (.Compare a [.Is] [b] pos) (tBv (eBin (fIs false) A B)) :=
  t_cmp (op_isN.or op_isBl) (up_is (fun x H Q q => ⟨rfl, q⟩) fun a b H Q q => ⟨a, b, rfl, rfl, q⟩) mono_fIs ha hb (nomark _)
theorem t_isnot (ha : QE X cl W a A) (hb : QE X cl W b B) : QT X cl W (.Compare a [.IsNot] [b] pos) (tBv (eBin (fIs true) A B)) :=
  t_cmp (op_notN.or op_notBl) (up_is (fun x H Q q => ⟨rfl, q⟩) fun a b H Q q => ⟨a, b, rfl, rfl, q⟩) mono_fIs ha hb (nomark _)
/-- truth -/
def TruD (m : Mp) : D → Bool → Prop
  | .non, k => k = false
  | .bl b, k => k = b
  | .int i, k => k = (i != 0)
  | .str y, k => y.length ≤ sizeLine ∧ k = ((y.length : Int) != 0)
  | .tup l, k => k = !l.isEmpty
  | .ref p, k => (∃ l, RL m p l ∧ k = !l.isEmpty) ∨ ∃ kvs, m p = some (.dK kvs) ∧ k = !kvs.isEmpty
  | .ty _, _ => False
theorem Reps.empty {K : PySem.W.Frag} {H : Hp} {l : List D} {vs : List V} (r : Reps K H l vs) : vs.isEmpty = l.isEmpty := by
  have e := r.length
  cases vs <;> cases l <;> first | rfl | cases e
theorem TruD.up {m : Mp} {d : D} {v : V} {k : Bool} {H : Hp} (h : TruD m d k) (r : Rep X.K H d v) (hm : Ab X.K cl H m) : TruV X.K v H k := by
  cases d with
  | non => cases r; exact h
  | bl b => cases r; exact h
  | int i => cases r; exact h
  | str y => cases r; exact h
  | tup l =>
    obtain ⟨p, vs, rfl, h1, h2⟩ := r
    exact .inr (.inl ⟨vs, h1, by rw [h2.empty]; exact h⟩)
  | ref p =>
    cases r
    rcases h with ⟨l, h1, h2⟩ | ⟨kvs, h1, h2⟩
    · obtain ⟨vs, q1, q2⟩ := hm.rl h1
      exact .inl ⟨vs, q1, by rw [q2.empty]; exact h2⟩
    · obtain ⟨kws, q1, q2⟩ := hm.1 p _ h1
      refine .inr (.inr ⟨kws, q1, ?_⟩)
      rw [h2]
      cases kvs with
      | nil => cases q2; rfl
      | cons kv kvs => obtain ⟨k, d⟩ := kv; obtain ⟨v, r', e, _⟩ := q2; subst e; rfl
  | ty n => exact h.elim
def tTru (T : TE3) : TT3 := fun s m k x => T s m (fun d m1 => ∃ b, TruD m1 d b ∧ k b m1) x
theorem t_tru (ha : QE X cl W a A) (he : ∀ whole, isTrue a X.env whole = (do let v ← whole; standAt a.pos; holding [v] (truthy v))) : QT X cl W a (tTru A) :=
  ⟨fun s m k k' x x' hk hx q => ha.mono _ _ _ _ _ _ (fun d m ⟨b, e, z⟩ => ⟨b, e, hk _ _ z⟩) hx q,
   PT.imp (pt_truth ha.run he) fun σ H Q ⟨s, m, hs, hm, q⟩ => ⟨s, m, hs, hm, ha.mono _ _ _ _ _ _ (fun d m ⟨b, e, z⟩ v H' r a e' => ⟨b, e.up r a, z H' a e'⟩) (fun _ _ z => z) q⟩⟩

/-! ### and, or, not as tests -/
def tAnd3 (t u : TT3) : TT3 := fun s m k x => t s m (fun c m1 => if c = true then u s m1 k x else k false m1) x
def tOr3 (t u : TT3) : TT3 := fun s m k x => t s m (fun c m1 => if c = true then k true m1 else u s m1 k x) x
def tNot3 (t : TT3) : TT3 := fun s m k x => t s m (fun c m1 => k (!c) m1) x
theorem mono_and3 (ha : MonoT TA) (hb : MonoT TB) : MonoT (tAnd3 TA TB) := fun s m k k' x x' hk hx q => ha _ _ _ _ _ _ (fun c m1 z => by
  cases c with
  | true => exact hb _ _ _ _ _ _ hk hx z
  | false => exact hk _ _ z) hx q
theorem mono_or3 (ha : MonoT TA) (hb : MonoT TB) : MonoT (tOr3 TA TB) := fun s m k k' x x' hk hx q => ha _ _ _ _ _ _ (fun c m1 z => by
  cases c with
  | true => exact hk _ _ z
  | false => exact hb _ _ _ _ _ _ hk hx z) hx q
theorem w_and1 (ha : QT X cl W a TA) : QW X cl W (.BoolOp .And [a] pos) TA := ⟨ha.mono, pw_and1 ha.run⟩
theorem w_or1 (ha : QT X cl W a TA) : QW X cl W (.BoolOp .Or [a] pos) TA := ⟨ha.mono, pw_or1 ha.run⟩
theorem w_and (ha : QT X cl W a TA) (hb : QW X cl W (.BoolOp .And (b :: rest) pos) TB) : QW X cl W (.BoolOp .And (a :: b :: rest) pos) (tAnd3 TA TB) :=
  ⟨mono_and3 ha.mono hb.mono, PW.imp (pw_and ha.run hb.run) fun σ H Q ⟨s, m, hs, hm, q⟩ => ⟨s, m, hs, hm, ha.mono _ _ _ _ _ _ (fun c m1 z H1 hm1 e1 => by
    cases c with
    | true => exact ⟨s, m1, hs.mono e1, hm1, hb.mono _ _ _ _ _ _ (fun d m2 w => cT_ext e1 w) (fun _ _ w => cX_ext e1 w) z⟩
    | false => exact z H1 hm1 e1) (fun _ _ z => z) q⟩⟩
theorem w_or (ha : QT X cl W a TA) (hb : QW X cl W (.BoolOp .Or (b :: rest) pos) TB) : QW X cl W (.BoolOp .Or (a :: b :: rest) pos) (tOr3 TA TB) :=
  ⟨mono_or3 ha.mono hb.mono, PW.imp (pw_or ha.run hb.run) fun σ H Q ⟨s, m, hs, hm, q⟩ => ⟨s, m, hs, hm, ha.mono _ _ _ _ _ _ (fun c m1 z H1 hm1 e1 => by
    cases c with
    | true => exact z H1 hm1 e1
    | false => exact ⟨s, m1, hs.mono e1, hm1, hb.mono _ _ _ _ _ _ (fun d m2 w => cT_ext e1 w) (fun _ _ w => cX_ext e1 w) z⟩) (fun _ _ z => z) q⟩⟩
theorem t_w (h : QW X cl W a TA) : QT X cl W a TA := ⟨h.mono, h.run.pt⟩
theorem t_not (ha : QT X cl W a TA) : QT X cl W (.UnaryOp .Not a pos) (tNot3 TA) :=
  ⟨fun s m k k' x x' hk hx q => ha.mono _ _ _ _ _ _ (fun c m1 z => hk _ _ z) hx q,
   PT.imp (pt_not ha.run) fun σ H Q ⟨s, m, hs, hm, q⟩ => ⟨s, m, hs, hm, ha.mono _ _ _ _ _ _ (fun c m1 z H1 hm1 e1 => z H1 hm1 e1) (fun _ _ z => z) q⟩⟩

/-! ### .. as values -/
def eAnd (A B : TE3) : TE3 := fun s m k x => A s m (fun d m1 => ∃ c, d = .bl c ∧ if c = true then B s m1 k x else k (.bl false) m1) x
def eOr (A B : TE3) : TE3 := fun s m k x => A s m (fun d m1 => ∃ c, d = .bl c ∧ if c = true then k (.bl true) m1 else B s m1 k x) x
def eNot (A : TE3) : TE3 := fun s m k x => A s m (fun d m1 => ∃ c, d = .bl c ∧ k (.bl (!c)) m1) x
theorem q_one {op} (h : QE X cl W a A) : QE X cl W (.BoolOp op [a] pos) A := ⟨h.mono, pe_one h.run⟩
theorem q_and (ha : QE X cl W a A) (hb : QE X cl W (.BoolOp .And (b :: rest) pos) B) : QE X cl W (.BoolOp .And (a :: b :: rest) pos) (eAnd A B) :=
  ⟨fun s m k k' x x' hk hx q => ha.mono _ _ _ _ _ _ (fun d m1 ⟨c, e, z⟩ => ⟨c, e, by
      cases c with
      | true => exact hb.mono _ _ _ _ _ _ hk hx z
      | false => exact hk _ _ z⟩) hx q,
   PE.imp (pe_and ha.run hb.run) fun σ H Q ⟨s, m, hs, hm, q⟩ => ⟨s, m, hs, hm, ha.mono _ _ _ _ _ _ (fun d m1 ⟨c, e, z⟩ v H1 r hm1 e1 => ⟨c, by subst e; exact r, by
    cases c with
    | true => exact ⟨s, m1, hs.mono e1, hm1, hb.mono _ _ _ _ _ _ (fun d m2 w => cE_ext e1 w) (fun _ _ w => cX_ext e1 w) z⟩
    | false => exact z _ H1 rfl hm1 e1⟩) (fun _ _ z => z) q⟩⟩
theorem q_or (ha : QE X cl W a A) (hb : QE X cl W (.BoolOp .Or (b :: rest) pos) B) : QE X cl W (.BoolOp .Or (a :: b :: rest) pos) (eOr A B) :=
  ⟨fun s m k k' x x' hk hx q => ha.mono _ _ _ _ _ _ (fun d m1 ⟨c, e, z⟩ => ⟨c, e, by
      cases c with
      | true => exact hk _ _ z
      | false => exact hb.mono _ _ _ _ _ _ hk hx z⟩) hx q,
   PE.imp (pe_or ha.run hb.run) fun σ H Q ⟨s, m, hs, hm, q⟩ => ⟨s, m, hs, hm, ha.mono _ _ _ _ _ _ (fun d m1 ⟨c, e, z⟩ v H1 r hm1 e1 => ⟨c, by subst e; exact r, by
    cases c with
    | true => exact z _ H1 rfl hm1 e1
    | false => exact ⟨s, m1, hs.mono e1, hm1, hb.mono _ _ _ _ _ _ (fun d m2 w => cE_ext e1 w) (fun _ _ w => cX_ext e1 w) z⟩⟩) (fun _ _ z => z) q⟩⟩
theorem q_not (ha : QE X cl W a A) : QE X cl W (.UnaryOp .Not a pos) (eNot A) :=
  ⟨fun s m k k' x x' hk hx q => ha.mono _ _ _ _ _ _ (fun d m1 ⟨c, e, z⟩ => ⟨c, e, hk _ _ z⟩) hx q,
   PE.imp (pe_not ha.run) fun σ H Q ⟨s, m, hs, hm, q⟩ => ⟨s, m, hs, hm, ha.mono _ _ _ _ _ _ (fun d m1 ⟨c, e, z⟩ v H1 r hm1 e1 => ⟨c, by subst e; exact r, z _ H1 rfl hm1 e1⟩) (fun _ _ z => z) q⟩⟩
def eIf (t : TT3) (A B : TE3) : TE3 := fun s m k x => t s m (fun c m1 => if c = true then A s m1 k x else B s m1 k x) x
theorem q_if (ht : QT X cl W c TA) (ha : QE X cl W a A) (hb : QE X cl W b B) : QE X cl W (.IfExp c a b pos) (eIf TA A B) :=
  ⟨fun s m k k' x x' hk hx q => ht.mono _ _ _ _ _ _ (fun c m1 z => by
      cases c with
      | true => exact ha.mono _ _ _ _ _ _ hk hx z
      | false => exact hb.mono _ _ _ _ _ _ hk hx z) hx q,
   PE.imp (pe_ifExp ht.run ha.run hb.run) fun σ H Q ⟨s, m, hs, hm, q⟩ => ⟨s, m, hs, hm, ht.mono _ _ _ _ _ _ (fun c m1 z H1 hm1 e1 => by
    cases c with
    | true => exact ⟨s, m1, hs.mono e1, hm1, ha.mono _ _ _ _ _ _ (fun d m2 w => cE_ext e1 w) (fun _ _ w => cX_ext e1 w) z⟩
    | false => exact ⟨s, m1, hs.mono e1, hm1, hb.mono _ _ _ _ _ _ (fun d m2 w => cE_ext e1 w) (fun _ _ w => cX_ext e1 w) z⟩) (fun _ _ z => z) q⟩⟩

/-! ### lists of expressions; displays -/
def aNil : TA3 := fun _ m k _ => k [] m
def aCons (A : TE3) (R : TA3) : TA3 := fun s m k x => A s m (fun d m1 => R s m1 (fun ds m2 => k (d :: ds) m2) x) x
theorem qa_nil : QA X cl W [] aNil := ⟨fun s m k k' x x' hk hx q => hk _ _ q, PA.imp pa_nil fun σ H Q ⟨s, m, hs, hm, q⟩ => q _ H rfl hm (Ext.refl H)⟩
theorem qa_cons {R : TA3} (ha : QE X cl W a A) (hr : QA X cl W rest R) (hs : starEach (a :: rest) X.env = (false, eval a X.env) :: starEach rest X.env) : QA X cl W (a :: rest) (aCons A R) :=
  ⟨fun s m k k' x x' hk hx q => ha.mono _ _ _ _ _ _ (fun d m1 z => hr.mono _ _ _ _ _ _ (fun ds m2 w => hk _ _ w) hx z) hx q,
   PA.imp (pa_cons ha.run hr.run hs) fun σ H Q ⟨s, m, hs, hm, q⟩ => ⟨s, m, hs, hm, ha.mono _ _ _ _ _ _ (fun d m1 z v H1 r1 hm1 e1 =>
    ⟨s, m1, hs.mono e1, hm1, hr.mono _ _ _ _ _ _ (fun ds m2 w vs H2 r2 hm2 e2 => w _ _ (Reps.cons (r1.mono e2) r2) hm2 (e1.trans e2)) (fun _ _ w => cX_ext e1 w) z⟩) (fun _ _ z => z) q⟩⟩
variable {R : TA3}
def eTup (R : TA3) : TE3 := fun s m k x => R s m (fun ds m1 => ds.length ≤ sizeLine ∧ k (.tup ds) m1) x
def eLst (R : TA3) : TE3 := fun s m k x => R s m (fun ds m1 => ds.length ≤ sizeLine ∧ ∀ p, m1 p = none → k (.ref p) (mset m1 p (.lst ds))) x
theorem q_tup {j} (hr : QA X cl W rest R) : QE X cl W (.Tuple rest j pos) (eTup R) :=
  ⟨fun s m k k' x x' hk hx q => hr.mono _ _ _ _ _ _ (fun ds m1 z => ⟨z.1, hk _ _ z.2⟩) hx q,
   PE.imp (pe_tup hr.run) fun σ H Q ⟨s, m, hs, hm, q⟩ => ⟨s, m, hs, hm, hr.mono _ _ _ _ _ _ (fun ds m1 z vs H1 r hm1 e1 => ⟨by rw [← r.length]; exact z.1, fun p hp =>
    z.2 _ _ (rep_tup hp r) (hm1.hid hp) (e1.trans (Ext.new hp))⟩) (fun _ _ z => z) q⟩⟩
theorem q_lst (hr : QA X cl W rest R) : QE X cl W (.List rest pos) (eLst R) :=
  ⟨fun s m k k' x x' hk hx q => hr.mono _ _ _ _ _ _ (fun ds m1 z => ⟨z.1, fun p hp => hk _ _ (z.2 p hp)⟩) hx q,
   PE.imp (pe_lst hr.run) fun σ H Q ⟨s, m, hs, hm, q⟩ => ⟨s, m, hs, hm, hr.mono _ _ _ _ _ _ (fun ds m1 z vs H1 r hm1 e1 => ⟨by rw [← r.length]; exact z.1, fun p hp =>
    z.2 p (hm1.free hp) _ _ rfl (new_lst hm1 hp r) (e1.trans (Ext.new hp))⟩) (fun _ _ z => z) q⟩⟩
def eDic : TE3 := fun _ m k _ => ∀ p, m p = none → k (.ref p) (mset m p (.dK []))
theorem q_dic : QE X cl W (.Dict [] [] pos) eDic :=
  ⟨fun s m k k' x x' hk hx q p hp => hk _ _ (q p hp),
   PE.imp pe_dnewK fun σ H Q ⟨s, m, hs, hm, q⟩ p hp => q p (hm.free hp) _ _ rfl (hm.new hp ⟨[], upd_same, rfl⟩) (Ext.new hp)⟩

/-! ### subscripts -/
def fIx : D → D → Mp → K3 → Prop
  | .ref p, y, m, k => (∃ i l d, y = .int i ∧ RL m p l ∧ atI l i = some d ∧ k d m) ∨ ∃ d, DG m p y (some d) ∧ k d m
  | .tup l, .int i, m, k => ∃ d, atI l i = some d ∧ k d m
  | .str z, .int i, m, k => z.length ≤ sizeLine ∧ ∃ c, atI z.cps.toList i = some c ∧ k (.str ⟨#[c]⟩) m
  | _, _, _, _ => False
theorem mono_ix : MonoF fIx := fun u v m k k' hk h => by
  unfold fIx at h ⊢
  split at h <;> first
    | (rcases h with ⟨i, l, d, h0, h1, h2, h3⟩ | ⟨d, h1, h2⟩
       · exact .inl ⟨i, l, d, h0, h1, h2, hk _ _ h3⟩
       · exact .inr ⟨d, h1, hk _ _ h2⟩)
    | (obtain ⟨h0, c, h1, h2⟩ := h; exact ⟨h0, c, h1, hk _ _ h2⟩)
    | (obtain ⟨d, h1, h2⟩ := h; exact ⟨d, h1, hk _ _ h2⟩)
    | exact h.elim
theorem Reps.atI {K : PySem.W.Frag} {H : Hp} {l : List D} {vs : List V} {i : Int} {d : D} (r : Reps K H l vs) (h : L2.atI l i = some d) : ∃ v, L2.atI vs i = some v ∧ Rep K H d v := by
  unfold L2.atI at h ⊢
  rw [r.length] at h
  cases e : ixN vs.length i with
  | none => rw [e] at h; cases h
  | some j => rw [e] at h; exact r.get (by simpa using h)
def rIxDk : R2 := fun x y H Q => ∃ a v, x = .ref a ∧ DGet H a y (some v) ∧ Q v H
theorem ix_dict (hu : X.A.units + 1 < cLine) : IxR X rIxDk := by
  rintro value slice pins s σ H x y v u Q I rx ry ⟨a, w, rfl, g, q⟩ hs
  cases rx
  exact tail_any (dict_typeIs I g) PySem.F.slot_dict_getitem.lookup (d_getItem hu I g ry fun w' s3 I3 rw' => ⟨w, H, I3, rw', q⟩) hs
theorem up_ix (H : Hp) (m : Mp) (u v : D) (x y : V) (Q : VK) (rx : Rep X.K H u x) (ry : Rep X.K H v y) (hm : Ab X.K cl H m) (h : fIx u v m (cE X.K cl H Q)) : rIx X.K x y H Q ∨ rIxDk x y H Q := by
  unfold fIx at h
  split at h
  · rename_i p
    have rx' : x = .ref p := rx
    rcases h with ⟨i, l, d, rfl, h1, h2, h3⟩ | ⟨d, h1, h2⟩
    · have ry' : y = .int i := ry
      obtain ⟨vs, q1, q2⟩ := hm.rl h1
      obtain ⟨v, q3, q4⟩ := q2.atI h2
      exact .inl (.inl ⟨p, vs, i, v, rx', ry', q1, q3, h3 _ _ q4 hm (Ext.refl H)⟩)
    · obtain ⟨ov, g, e⟩ := h1.up hm ry
      rcases e with ⟨e, _⟩ | ⟨d', w, e, rfl, e3⟩
      · cases e
      · cases e
        exact .inr ⟨p, w, rx', g, h2 _ _ e3 hm (Ext.refl H)⟩
  · rename_i l i
    have ry' : y = .int i := ry
    obtain ⟨p, vs, rfl, q1, q2⟩ := rx
    obtain ⟨d, h2, h3⟩ := h
    obtain ⟨v, q3, q4⟩ := q2.atI h2
    exact .inl (.inr (.inl ⟨p, vs, i, v, rfl, ry', q1, q3, h3 _ _ q4 hm (Ext.refl H)⟩))
  · rename_i z i
    have rx' : x = .str z := rx
    have ry' : y = .int i := ry
    obtain ⟨h0, c, h2, h3⟩ := h
    exact .inl (.inr (.inr ⟨z, i, c, rx', ry', h0, h2, h3 _ _ rfl hm (Ext.refl H)⟩))
  · exact h.elim
theorem q_ix (hu : X.A.units + 64 < cLine) (ha : QE X cl W a A) (hb : QE X cl W b B) (hs : PlainIx b) : QE X cl W (.Subscript a b pos) (eBin fIx A B) :=
  ⟨mono_bin mono_ix ha.mono hb.mono, PE.imp (pe_ix (ix_seq.or (ix_dict (by omega))) ha.run hb.run hs) (two_up ha.mono hb.mono up_ix mono_ix)⟩

/-! ### slices -/
def cutD (xs : List D) (lo hi : Option Int) : List D := (xs.drop (HT.sIx xs.length 0 lo)).take (HT.sIx xs.length xs.length hi - HT.sIx xs.length 0 lo)
def fSl (u : D) (lo hi : Option Int) (m : Mp) (k : K3) : Prop := match u with
  | .ref p => ∃ l, RL m p l ∧ ∀ z, m z = none → k (.ref z) (mset m z (.lst (cutD l lo hi)))
  | .tup l => k (.tup (cutD l lo hi)) m
  | .str z => z.length ≤ sizeLine ∧ k (.str (cutS z lo hi)) m
  | _ => False
theorem mono_sl {u : D} {lo hi : Option Int} {m : Mp} {k k' : K3} (hk : ∀ d m, k d m → k' d m) (h : fSl u lo hi m k) : fSl u lo hi m k' := by
  unfold fSl at h ⊢
  split at h
  · obtain ⟨l, h1, h2⟩ := h
    exact ⟨l, h1, fun z hz => hk _ _ (h2 z hz)⟩
  · exact hk _ _ h
  · exact ⟨h.1, hk _ _ h.2⟩
  · exact h.elim
abbrev TO3 := S3 → Mp → (Option Int → Mp → Prop) → X3 → Prop
def oNone : TO3 := fun _ m k _ => k none m
def oSome (A : TE3) : TO3 := fun s m k x => A s m (fun d m1 => ∃ i, d = .int i ∧ k (some i) m1) x
def upO (K : PySem.W.Frag) (cl : Cl) (W : WX) (T : TO3) : TO := fun σ H Q => ∃ s m, RepS K H s σ ∧ Ab K cl H m ∧ T s m (fun o m' => ∀ H', Ab K cl H' m' → Ext H H' → Q o H') (cX K cl W H σ)
def MonoO (T : TO3) : Prop := ∀ s m k k' x x', (∀ d m, k d m → k' d m) → (∀ e m, x e m → x' e m) → T s m k x → T s m k' x'
structure QO (X : Cx) (cl : Cl) (W : WX) (e : Option Expr) (T : TO3) : Prop where
  mono : MonoO T
  run : PO X e (upO X.K cl W T)
theorem PO.imp {X : Cx} {e : Option Expr} {t t' : TO} (h : PO X e t) (i : ∀ σ H Q, t' σ H Q → t σ H Q) : PO X e t' := ⟨fun pins s σ H Q I q => h.run pins s σ H Q I (i σ H Q q)⟩
theorem qo_none : QO X cl W none oNone := ⟨fun s m k k' x x' hk hx q => hk _ _ q, PO.imp po_none fun σ H Q ⟨s, m, hs, hm, q⟩ => q H hm (Ext.refl H)⟩
theorem qo_some (ha : QE X cl W a A) : QO X cl W (some a) (oSome A) :=
  ⟨fun s m k k' x x' hk hx q => ha.mono _ _ _ _ _ _ (fun d m1 ⟨i, e, z⟩ => ⟨i, e, hk _ _ z⟩) hx q,
   PO.imp (po_some ha.run) fun σ H Q ⟨s, m, hs, hm, q⟩ => ⟨s, m, hs, hm, ha.mono _ _ _ _ _ _ (fun d m1 ⟨i, e, z⟩ v H1 r hm1 e1 => ⟨i, by subst e; exact r, z H1 hm1 e1⟩) (fun _ _ z => z) q⟩⟩
def eSl (A : TE3) (L U : TO3) : TE3 := fun s m k x => A s m (fun d m1 => L s m1 (fun lo m2 => U s m2 (fun hi m3 => fSl d lo hi m3 k) x) x) x
theorem Reps.cut {K : PySem.W.Frag} {H : Hp} {l : List D} {vs : List V} (lo hi : Option Int) (r : Reps K H l vs) : Reps K H (cutD l lo hi) (cutV vs lo hi) := by
  unfold cutD cutV
  rw [r.length]
  exact (r.drop _).take _
theorem q_sl {lo hi : Option Expr} {L U : TO3} {p2 : Pos} (ha : QE X cl W a A) (hl : QO X cl W lo L) (hu : QO X cl W hi U) : QE X cl W (.Subscript a (.Slice lo hi none p2) pos) (eSl A L U) :=
  ⟨fun s m k k' x x' hk hx q => ha.mono _ _ _ _ _ _ (fun d m1 z => hl.mono _ _ _ _ _ _ (fun l m2 w => hu.mono _ _ _ _ _ _ (fun h m3 y => mono_sl hk y) hx w) hx z) hx q,
   PE.imp (pe_slice (sl_list.or (sl_tupA.or sl_str)) ha.run hl.run hu.run) fun σ H Q ⟨s, m, hs, hm, q⟩ => ⟨s, m, hs, hm, ha.mono _ _ _ _ _ _ (fun d m1 z v H1 r1 hm1 e1 =>
    ⟨s, m1, hs.mono e1, hm1, hl.mono _ _ _ _ _ _ (fun l m2 w H2 hm2 e2 => ⟨s, m2, hs.mono (e1.trans e2), hm2, hu.mono _ _ _ _ _ _ (fun h m3 y H3 hm3 e3 => by
      have e13 := (e1.trans e2).trans e3
      have r3 := r1.mono (e2.trans e3)
      unfold fSl at y
      split at y
      · rename_i p
        have r' : v = .ref p := r3
        obtain ⟨l, h1, h2⟩ := y
        obtain ⟨vs, q1, q2⟩ := hm3.rl h1
        exact .inl ⟨p, vs, r', q1, fun z hz => h2 z (hm3.free hz) _ _ rfl (new_lst hm3 hz (q2.cut _ _)) (e13.trans (Ext.new hz))⟩
      · rename_i xs
        obtain ⟨p, vs, rfl, q1, q2⟩ := r3
        refine .inr (.inl ⟨p, vs, rfl, q1, fun hw => ?_, fun _ z hz => ?_⟩)
        · have e : cutV vs l h = vs := by
            unfold cutV
            rw [hw.1, hw.2, List.drop_zero, Nat.sub_zero, List.take_length]
          have c := q2.cut l h
          rw [e] at c
          exact y _ _ ⟨p, vs, rfl, q1, c⟩ hm3 e13
        · exact y _ _ (rep_tup hz (q2.cut _ _)) (hm3.hid hz) (e13.trans (Ext.new hz))
      · rename_i t
        have r' : v = .str t := r3
        exact .inr (.inr ⟨t, r', y.1, y.2 _ _ rfl hm3 e13⟩)
      · exact y.elim) (fun _ _ w => cX_ext (e1.trans e2) w) w⟩) (fun _ _ w => cX_ext e1 w) z⟩) (fun _ _ z => z) q⟩⟩
end
end PV

/-! Calls: built-ins, own defs. -/
namespace PV
open PySem L2 PyProof.Rows
section
variable {X : Cx} {cl : Cl} {W : WX} {a b c : Expr} {A B C : TE3} {rest : List Expr} {R : TA3} {pos p : Pos}

theorem t_chain {op op' : CmpOp} {p q : Int → Int → Bool} (ho : OpR X (compareOp op) (rI0 fun i j => .bl (p i j))) (ho' : OpR X (compareOp op') (rI0 fun i j => .bl (q i j))) (n3 : op' ≠ .In) (n4 : op' ≠ .NotIn)
    (ha : QE X cl W a A) (hb : QE X cl W b B) (hc : QE X cl W c C) : QT X cl W (.Compare a [op, op'] [b, c] pos) (tBv (eChain p q A B C)) := by
  have mc : MonoE (eChain p q A B C) := fun s m k k' x x' hk hx h => ha.mono _ _ _ _ _ _ (fun u m1 h1 => hb.mono _ _ _ _ _ _ (fun v m2 ⟨i, j, e1, e2, h2⟩ => ⟨i, j, e1, e2, by
      split at h2
      · rename_i z
        rw [if_pos z]
        exact hc.mono _ _ _ _ _ _ (fun w m3 ⟨l, e3, h3⟩ => ⟨l, e3, hk _ _ h3⟩) hx h2
      · rename_i z
        rw [if_neg z]
        exact hk _ _ h2⟩) hx h1) hx h
  refine ⟨mono_tBv mc, PT.imp (pt_chain ho ho' ha.run hb.run hc.run (show behindInMarks op' c = false from nobehind _ n3 n4)) fun σ H Q q0 => ?_⟩
  obtain ⟨s, m, hs, hm, h⟩ := upT_tBv mc σ H Q q0
  refine ⟨s, m, hs, hm, ha.mono _ _ _ _ _ _ (fun u m1 h1 x H1 rx hm1 e1 => ?_) (fun _ _ z => z) h⟩
  refine ⟨s, m1, hs.mono e1, hm1, hb.mono _ _ _ _ _ _ (fun v m2 h2 y H2 ry hm2 e2 => ?_) (fun _ _ z => cX_ext e1 z) h1⟩
  obtain ⟨i, j, rfl, rfl, h3⟩ := h2
  refine ⟨i, j, rx, ry, p i j, rfl, ?_⟩
  split at h3
  · rename_i z
    rw [if_pos z]
    refine ⟨s, m2, hs.mono (e1.trans e2), hm2, hc.mono _ _ _ _ _ _ (fun w m3 ⟨l, e3, h4⟩ z H3 rz hm3 e4 => ?_) (fun _ _ z => cX_ext (e1.trans e2) z) h3⟩
    subst e3
    have ry' : y = .int j := ry
    exact ⟨j, l, ry', rz, h4 _ _ rfl hm3 ((e1.trans e2).trans e4)⟩
  · rename_i z
    rw [if_neg z]
    exact h3 _ _ rfl hm2 (e1.trans e2)

/-! ### a built-in called -/
def eCB (f : List D → Mp → K3 → Prop) (R : TA3) : TE3 := fun s m k x => R s m (fun ds m1 => f ds m1 k) x
def MonoC (f : List D → Mp → K3 → Prop) : Prop := ∀ ds m k k', (∀ d m, k d m → k' d m) → f ds m k → f ds m k'
theorem mono_CB {f : List D → Mp → K3 → Prop} (hf : MonoC f) (hr : MonoA R) : MonoE (eCB f R) := fun s m k k' x x' hk hx h => hr _ _ _ _ _ _ (fun ds m1 z => hf _ _ _ _ hk z) hx h
def UpC (X : Cx) (cl : Cl) (f : List D → Mp → K3 → Prop) (r : List V → Hp → VK → Prop) : Prop :=
  ∀ (H : Hp) (m : Mp) (ds : List D) (vs : List V) (Q : VK), Reps X.K H ds vs → Ab X.K cl H m → f ds m (cE X.K cl H Q) → r vs H Q
theorem up_CB {f : List D → Mp → K3 → Prop} {r : List V → Hp → VK → Prop} (hr : MonoA R) (mf : MonoC f) (u : UpC X cl f r) (σ : L2.St) (H : Hp) (Q : VK) (h : upE X.K cl W (eCB f R) σ H Q) : tCB r (upA X.K cl W R) σ H Q := by
  obtain ⟨s, m, hs, hm, h⟩ := h
  exact ⟨s, m, hs, hm, hr _ _ _ _ _ _ (fun ds m1 z vs H1 r1 hm1 e1 => u H1 m1 ds vs Q r1 hm1 (mf _ _ _ _ (fun d m w => cE_ext e1 w) z)) (fun _ _ z => z) h⟩
theorem q_cb {x : Str} {id : String} {f : List D → Mp → K3 → Prop} {r : List V → Hp → VK → Prop} (hc : CallR X (.builtin id) r) (u : UpC X cl f r) (mf : MonoC f)
    (hv : bootBuiltins x = some (.builtin id)) (hn : x ≠ "__name__") (hdb : (x == ("__debug__" : Str)) = false)
    (hg : Gl X x) (hm : X.mg x = none) (ha : QA X cl W (a :: rest) R) (he : starEach (a :: rest) X.env = (false, eval a X.env) :: starEach rest X.env) (hpl : (backTo pos (starEach rest X.env)).any (·.1) = false) :
    QE X cl W (.Call (.Name x p) (a :: rest) [] pos) (eCB f R) :=
  ⟨mono_CB mf ha.mono, PE.imp (pe_callB hc hg hm hv ha.run hn hdb he hpl) (up_CB ha.mono mf u)⟩
theorem q_cty {x : Str} {T : String} {f : List D → Mp → K3 → Prop} {r : List V → Hp → VK → Prop} (hc : CallR X (.type T) r) (u : UpC X cl f r) (mf : MonoC f)
    (hv : bootBuiltins x = some (.type T)) (hn : x ≠ "__name__") (hdb : (x == ("__debug__" : Str)) = false)
    (hg : Gl X x) (hm : X.mg x = none) (ha : QA X cl W (a :: rest) R) (he : starEach (a :: rest) X.env = (false, eval a X.env) :: starEach rest X.env) (hpl : (backTo pos (starEach rest X.env)).any (·.1) = false) :
    QE X cl W (.Call (.Name x p) (a :: rest) [] pos) (eCB f R) :=
  ⟨mono_CB mf ha.mono, PE.imp (pe_callTy hc hg hm hv ha.run hn hdb he hpl) (up_CB ha.mono mf u)⟩

/-- len -/
def fLen : List D → Mp → K3 → Prop
  | [.str z], m, k => z.length ≤ sizeLine ∧ k (.int z.length) m
  | [.tup l], m, k => k (.int l.length) m
  | [.ref q], m, k => (∃ l, RL m q l ∧ k (.int l.length) m) ∨ ∃ kvs, (m q = some (.dK kvs) ∨ m q = some (.rdK kvs)) ∧ k (.int kvs.length) m
  | _, _, _ => False
theorem mono_len : MonoC fLen := fun ds m k k' hk h => by
  unfold fLen at h ⊢
  split at h
  · exact ⟨h.1, hk _ _ h.2⟩
  · exact hk _ _ h
  · rcases h with ⟨l, h1, h2⟩ | ⟨l, h1, h2⟩
    · exact .inl ⟨l, h1, hk _ _ h2⟩
    · exact .inr ⟨l, h1, hk _ _ h2⟩
  · exact h.elim
theorem reps1 {K : PySem.W.Frag} {H : Hp} {d : D} {vs : List V} (h : Reps K H [d] vs) : ∃ v, vs = [v] ∧ Rep K H d v := by
  obtain ⟨v, r, rfl, h1, h2⟩ := h
  cases h2
  exact ⟨v, rfl, h1⟩
theorem reps2 {K : PySem.W.Frag} {H : Hp} {d e : D} {vs : List V} (h : Reps K H [d, e] vs) : ∃ v w, vs = [v, w] ∧ Rep K H d v ∧ Rep K H e w := by
  obtain ⟨v, r, rfl, h1, h2⟩ := h
  obtain ⟨w, rfl, h3⟩ := reps1 h2
  exact ⟨v, w, rfl, h1, h3⟩
theorem call_lenDk : CallR X (.builtin "len") (fun xs H Q => ∃ a kvs, xs = [V.ref a] ∧ L2.Rd H a (.dK kvs) ∧ Q (.int kvs.length) H) := by
  intro pins s σ H xs us Q I r h
  obtain ⟨a, kvs, rfl, e, q⟩ := h
  rw [Vals.ref1 r]
  exact d_len I e fun t s' I' => ⟨.int kvs.length, H, I', ⟨t, rfl⟩, q⟩
theorem up_len : UpC X cl fLen (fun xs H Q => (∃ x n, xs = [x] ∧ LenV X.K x H n ∧ Q (.int n) H) ∨ ∃ a kvs, xs = [V.ref a] ∧ L2.Rd H a (.dK kvs) ∧ Q (.int kvs.length) H) := fun H m ds vs Q r hm h => by
  unfold fLen at h
  split at h
  · rename_i z
    obtain ⟨v, rfl, h1⟩ := reps1 r
    cases h1
    exact .inl ⟨_, z.length, rfl, ⟨h.1, rfl⟩, h.2 _ _ rfl hm (Ext.refl H)⟩
  · rename_i l
    obtain ⟨v, rfl, a, ws, rfl, h1, h2⟩ := reps1 r
    exact .inl ⟨_, l.length, rfl, .inr ⟨ws, h1, h2.length⟩, h _ _ rfl hm (Ext.refl H)⟩
  · rename_i q
    obtain ⟨v, rfl, h1⟩ := reps1 r
    cases h1
    rcases h with ⟨l, h1, h2⟩ | ⟨l, h1, h2⟩
    · obtain ⟨ws, q1, q2⟩ := hm.rl h1
      exact .inl ⟨_, l.length, rfl, .inl ⟨ws, q1, q2.length⟩, h2 _ _ rfl hm (Ext.refl H)⟩
    · rcases h1 with h1 | h1
      · obtain ⟨ws, q1, q2⟩ := hm.1 _ _ h1
        exact .inr ⟨_, ws, rfl, .inl q1, by rw [← q2.length]; exact h2 _ _ rfl hm (Ext.refl H)⟩
      · obtain ⟨o, ws, q1, q2⟩ := hm.1 _ _ h1
        exact .inr ⟨_, ws, rfl, .inr ⟨o, q1⟩, by rw [← q2.length]; exact h2 _ _ rfl hm (Ext.refl H)⟩
  · exact h.elim
theorem q_len (hg : Gl X "len") (hm : X.mg "len" = none) (ha : QA X cl W (a :: rest) R) (he : starEach (a :: rest) X.env = (false, eval a X.env) :: starEach rest X.env) (hpl : (backTo pos (starEach rest X.env)).any (·.1) = false) :
    QE X cl W (.Call (.Name "len" p) (a :: rest) [] pos) (eCB fLen R) := q_cb (call_len.or call_lenDk) up_len mono_len PySem.boot_len (by decide) (by decide) hg hm ha he hpl
/-- ord of one sign -/
def fOrd : List D → Mp → K3 → Prop := fun ds m k => ∃ z : Str, ds = [.str z] ∧ z.length = 1 ∧ k (.int (z.cps.getD 0 0 : Nat)) m
theorem q_ord (hg : Gl X "ord") (hm : X.mg "ord" = none) (ha : QA X cl W (a :: rest) R) (he : starEach (a :: rest) X.env = (false, eval a X.env) :: starEach rest X.env) (hpl : (backTo pos (starEach rest X.env)).any (·.1) = false) :
    QE X cl W (.Call (.Name "ord" p) (a :: rest) [] pos) (eCB fOrd R) :=
  q_cb call_ord (fun H m ds vs Q r hm ⟨z, e, h1, h2⟩ => by
    subst e
    obtain ⟨v, rfl, q⟩ := reps1 r
    cases q
    exact ⟨z, rfl, h1, h2 _ _ rfl hm (Ext.refl H)⟩) (fun ds m k k' hk ⟨z, e, h1, h2⟩ => ⟨z, e, h1, hk _ _ h2⟩) (by decide +kernel) (by decide) (by decide) hg hm ha he hpl
/-- abs, min, max of ints -/
def fAbs : List D → Mp → K3 → Prop := fun ds m k => ∃ i : Int, ds = [.int i] ∧ k (.int (if i < 0 then -i else i)) m
def fMax2 : List D → Mp → K3 → Prop := fun ds m k => ∃ i j : Int, ds = [.int i, .int j] ∧ k (.int (if j > i then j else i)) m
def fMin2 : List D → Mp → K3 → Prop := fun ds m k => ∃ i j : Int, ds = [.int i, .int j] ∧ k (.int (if j < i then j else i)) m
theorem q_abs (hg : Gl X "abs") (hm : X.mg "abs" = none) (ha : QA X cl W (a :: rest) R) (he : starEach (a :: rest) X.env = (false, eval a X.env) :: starEach rest X.env) (hpl : (backTo pos (starEach rest X.env)).any (·.1) = false) :
    QE X cl W (.Call (.Name "abs" p) (a :: rest) [] pos) (eCB fAbs R) :=
  q_cb call_abs (fun H m ds vs Q r hm ⟨i, e, h2⟩ => by
    subst e
    obtain ⟨v, rfl, q⟩ := reps1 r
    cases q
    exact ⟨i, rfl, h2 _ _ rfl hm (Ext.refl H)⟩) (fun ds m k k' hk ⟨z, e, h2⟩ => ⟨z, e, hk _ _ h2⟩) (by decide +kernel) (by decide) (by decide) hg hm ha he hpl
theorem q_max2 (hc : X.calm = true) (hg : Gl X "max") (hm : X.mg "max" = none) (ha : QA X cl W (a :: rest) R) (he : starEach (a :: rest) X.env = (false, eval a X.env) :: starEach rest X.env) (hpl : (backTo pos (starEach rest X.env)).any (·.1) = false) :
    QE X cl W (.Call (.Name "max" p) (a :: rest) [] pos) (eCB fMax2 R) :=
  q_cb (call_max2 hc) (fun H m ds vs Q r hm ⟨i, j, e, h2⟩ => by
    subst e
    obtain ⟨v, w, rfl, q, q'⟩ := reps2 r
    cases q
    cases q'
    exact ⟨i, j, rfl, h2 _ _ rfl hm (Ext.refl H)⟩) (fun ds m k k' hk ⟨z, j, e, h2⟩ => ⟨z, j, e, hk _ _ h2⟩) (by decide +kernel) (by decide) (by decide) hg hm ha he hpl
theorem q_min2 (hc : X.calm = true) (hg : Gl X "min") (hm : X.mg "min" = none) (ha : QA X cl W (a :: rest) R) (he : starEach (a :: rest) X.env = (false, eval a X.env) :: starEach rest X.env) (hpl : (backTo pos (starEach rest X.env)).any (·.1) = false) :
    QE X cl W (.Call (.Name "min" p) (a :: rest) [] pos) (eCB fMin2 R) :=
  q_cb (call_min2 hc) (fun H m ds vs Q r hm ⟨i, j, e, h2⟩ => by
    subst e
    obtain ⟨v, w, rfl, q, q'⟩ := reps2 r
    cases q
    cases q'
    exact ⟨i, j, rfl, h2 _ _ rfl hm (Ext.refl H)⟩) (fun ds m k k' hk ⟨z, j, e, h2⟩ => ⟨z, j, e, hk _ _ h2⟩) (by decide +kernel) (by decide) (by decide) hg hm ha he hpl
/-- int of an int, a truth; str of an int -/
def fInt : List D → Mp → K3 → Prop := fun ds m k => (∃ i : Int, ds = [.int i] ∧ k (.int i) m) ∨ (∃ b : Bool, ds = [.bl b] ∧ k (.int (if b then 1 else 0)) m) ∨ ∃ (z : Str) (n : Int), ds = [.str z] ∧ PySem.intText? z = some n ∧ z.length ≤ 640 ∧ k (.int n) m
def fStr : List D → Mp → K3 → Prop := fun ds m k => (∃ i : Int, ds = [.int i] ∧ i.natAbs.log2 < 1920 ∧ k (.str (toString i)) m) ∨ ∃ b : Bool, ds = [.bl b] ∧ k (.str (if b then "True" else "False")) m
theorem call_str_bl : CallR X (.type "str") (fun xs H Q => ∃ b, xs = [.bl b] ∧ Q (.str (if b then "True" else "False")) H) := fun pins s σ H xs us Q I r h => by
  obtain ⟨b, rfl, q⟩ := h
  obtain ⟨u, rfl, r1⟩ := vals1 r
  cases r1
  exact PySem.P.str_of_bool ⟨.str _, H, I.tok _, ⟨_, rfl⟩, q⟩
theorem q_int1 (hg : Gl X "int") (hm : X.mg "int" = none) (ha : QA X cl W (a :: rest) R) (he : starEach (a :: rest) X.env = (false, eval a X.env) :: starEach rest X.env) (hpl : (backTo pos (starEach rest X.env)).any (·.1) = false) :
    QE X cl W (.Call (.Name "int" p) (a :: rest) [] pos) (eCB fInt R) :=
  q_cty (call_int1.or call_int_str) (fun H m ds vs Q r hm h => by
    rcases h with ⟨i, e, h2⟩ | ⟨i, e, h2⟩ | ⟨z, n, e, h1, h3, h2⟩
    · subst e
      obtain ⟨v, rfl, q⟩ := reps1 r
      cases q
      exact .inl (.inl ⟨i, rfl, h2 _ _ rfl hm (Ext.refl H)⟩)
    · subst e
      obtain ⟨v, rfl, q⟩ := reps1 r
      cases q
      exact .inl (.inr ⟨i, rfl, h2 _ _ rfl hm (Ext.refl H)⟩)
    · subst e
      obtain ⟨v, rfl, q⟩ := reps1 r
      cases q
      exact .inr ⟨z, n, rfl, h1, h3, h2 _ _ rfl hm (Ext.refl H)⟩) (fun ds m k k' hk h => by
    rcases h with ⟨i, e, h2⟩ | ⟨i, e, h2⟩ | ⟨z, n, e, h1, h3, h2⟩
    · exact .inl ⟨i, e, hk _ _ h2⟩
    · exact .inr (.inl ⟨i, e, hk _ _ h2⟩)
    · exact .inr (.inr ⟨z, n, e, h1, h3, hk _ _ h2⟩)) (by decide +kernel) (by decide) (by decide) hg hm ha he hpl
theorem q_str1 (hg : Gl X "str") (hm : X.mg "str" = none) (ha : QA X cl W (a :: rest) R) (he : starEach (a :: rest) X.env = (false, eval a X.env) :: starEach rest X.env) (hpl : (backTo pos (starEach rest X.env)).any (·.1) = false) :
    QE X cl W (.Call (.Name "str" p) (a :: rest) [] pos) (eCB fStr R) :=
  q_cty (call_str_int.or call_str_bl) (fun H m ds vs Q r hm h => by
    rcases h with ⟨i, e, h1, h2⟩ | ⟨i, e, h2⟩
    · subst e
      obtain ⟨v, rfl, q⟩ := reps1 r
      cases q
      exact .inl ⟨i, rfl, h1, h2 _ _ rfl hm (Ext.refl H)⟩
    · subst e
      obtain ⟨v, rfl, q⟩ := reps1 r
      cases q
      exact .inr ⟨i, rfl, h2 _ _ rfl hm (Ext.refl H)⟩) (fun ds m k k' hk h => by
    rcases h with ⟨z, e, h1, h2⟩ | ⟨z, e, h2⟩
    · exact .inl ⟨z, e, h1, hk _ _ h2⟩
    · exact .inr ⟨z, e, hk _ _ h2⟩) (by decide +kernel) (by decide) (by decide) hg hm ha he hpl
/-- tuple(..), list(..) of a list, a tuple -/
def fTuple : List D → Mp → K3 → Prop := fun ds m k => (∃ q l, ds = [.ref q] ∧ RL m q l ∧ k (.tup l) m) ∨ ∃ l, ds = [.tup l] ∧ k (.tup l) m
def fList : List D → Mp → K3 → Prop := fun ds m k => ∃ l, ((∃ q, ds = [.ref q] ∧ RL m q l) ∨ ds = [.tup l]) ∧ ∀ z, m z = none → k (.ref z) (mset m z (.lst l))
theorem q_tuple (hg : Gl X "tuple") (hm : X.mg "tuple" = none) (ha : QA X cl W (a :: rest) R) (he : starEach (a :: rest) X.env = (false, eval a X.env) :: starEach rest X.env) (hpl : (backTo pos (starEach rest X.env)).any (·.1) = false) :
    QE X cl W (.Call (.Name "tuple" p) (a :: rest) [] pos) (eCB fTuple R) :=
  q_cty call_tuple_of (fun H m ds vs Q r hm h => by
    rcases h with ⟨q, l, e, h1, h2⟩ | ⟨l, e, h2⟩
    · subst e
      obtain ⟨v, rfl, q⟩ := reps1 r
      cases q
      obtain ⟨ws, q1, q2⟩ := hm.rl h1
      exact ⟨_, ws, rfl, .inl ⟨q1, fun z hz => h2 _ _ (rep_tup hz q2) (hm.hid hz) (Ext.new hz)⟩⟩
    · subst e
      obtain ⟨v, rfl, q⟩ := reps1 r
      have q' := q
      obtain ⟨u, ws, rfl, q1, q2⟩ := q
      exact ⟨_, ws, rfl, .inr ⟨q1, h2 _ _ q' hm (Ext.refl H)⟩⟩) (fun ds m k k' hk h => by
    rcases h with ⟨i, l, e, h1, h2⟩ | ⟨i, e, h2⟩
    · exact .inl ⟨i, l, e, h1, hk _ _ h2⟩
    · exact .inr ⟨i, e, hk _ _ h2⟩) (by decide +kernel) (by decide) (by decide) hg hm ha he hpl
theorem q_list (hg : Gl X "list") (hm : X.mg "list" = none) (ha : QA X cl W (a :: rest) R) (he : starEach (a :: rest) X.env = (false, eval a X.env) :: starEach rest X.env) (hpl : (backTo pos (starEach rest X.env)).any (·.1) = false) :
    QE X cl W (.Call (.Name "list" p) (a :: rest) [] pos) (eCB fList R) :=
  q_cty call_list_of (fun H m ds vs Q r hm h => by
    obtain ⟨l, h1, h2⟩ := h
    rcases h1 with ⟨q, e, h1⟩ | e
    · subst e
      obtain ⟨v, rfl, q⟩ := reps1 r
      cases q
      obtain ⟨ws, q1, q2⟩ := hm.rl h1
      exact ⟨_, ws, rfl, .inl q1, fun z hz => h2 z (hm.free hz) _ _ rfl (new_lst hm hz q2) (Ext.new hz)⟩
    · subst e
      obtain ⟨v, rfl, u, ws, rfl, q1, q2⟩ := reps1 r
      exact ⟨_, ws, rfl, .inr q1, fun z hz => h2 z (hm.free hz) _ _ rfl (new_lst hm hz q2) (Ext.new hz)⟩) (fun ds m k k' hk ⟨l, h1, h2⟩ => ⟨l, h1, fun z hz => hk _ _ (h2 z hz)⟩) (by decide +kernel) (by decide) (by decide) hg hm ha he hpl
/-- divmod, any positive divisor below 2 ^ 9000 -/
theorem cr_dvm : CallR X (.builtin "divmod") (fun zs G R => ∃ a b : Int, zs = [.int a, .int b] ∧ CDivW a b ∧ ∀ z, G z = none → R (.ref z) (upd G z (.tup [.int (a / b), .int (a % b)]))) := by
  intro pins s σ G zs us R inv rr hh
  obtain ⟨a, b, rfl, hc, rest⟩ := hh
  have hb0 : (0 : Int) < b := hc.1
  obtain ⟨_, _, rfl, ⟨ta, rfl⟩, ⟨tb, rfl⟩⟩ := vals2 rr
  refine PyProof.Rows.divmod_int (by omega) ?_ (.inl (PyProof.noPylong_of_log2 hc.2))
  have new : G s.heap.objs.size = none := inv.hok.fresh (Nat.le_refl _)
  rw [show a.fdiv b = a / b from Int.fdiv_eq_ediv_of_nonneg a (by omega), show a.fmod b = a % b from Int.fmod_eq_emod_of_nonneg a (by omega)]
  refine ⟨.ref s.heap.objs.size, _, inv.laid (fun c o e => Heap.get?_push_of_some _ e) (Nat.le_refl _) ?_, rfl, rest _ new⟩
  exact ⟨(by show 2 ≤ sizeLine; decide), [.int (a / b) s.toks, .int (a % b) (s.toks + 1)], .cons ⟨_, rfl⟩ (.cons ⟨_, rfl⟩ .nil), _, Heap.get?_push_size s.heap rfl, rfl, 0, rfl⟩
/-- divmod -/
def fDivmod : List D → Mp → K3 → Prop := fun ds m k => ∃ i j : Int, ds = [.int i, .int j] ∧ CDivW i j ∧ k (.tup [.int (i / j), .int (i % j)]) m
theorem q_divmod (hg : Gl X "divmod") (hm : X.mg "divmod" = none) (ha : QA X cl W (a :: rest) R) (he : starEach (a :: rest) X.env = (false, eval a X.env) :: starEach rest X.env) (hpl : (backTo pos (starEach rest X.env)).any (·.1) = false) :
    QE X cl W (.Call (.Name "divmod" p) (a :: rest) [] pos) (eCB fDivmod R) :=
  q_cb cr_dvm (fun H m ds vs Q r hm ⟨i, j, e, h1, h2⟩ => by
    subst e
    obtain ⟨v, w, rfl, q, q'⟩ := reps2 r
    cases q
    cases q'
    exact ⟨i, j, rfl, h1, fun p hp => h2 _ _ (rep_tup hp ⟨_, _, rfl, rfl, _, _, rfl, rfl, rfl⟩) (hm.hid hp) (Ext.new hp)⟩) (fun ds m k k' hk ⟨z, j, e, h1, h2⟩ => ⟨z, j, e, h1, hk _ _ h2⟩) (by decide +kernel) (by decide) (by decide) hg hm ha he hpl
/-- sum of a list of ints -/
def fSum : List D → Mp → K3 → Prop := fun ds m k => ∃ q, ∃ ns : List Int, ds = [.ref q] ∧ RL m q (ns.map D.int) ∧ k (.int ns.sum) m
theorem q_sum (hc : X.calm = true) (hg : Gl X "sum") (hm : X.mg "sum" = none) (ha : QA X cl W (a :: rest) R) (he : starEach (a :: rest) X.env = (false, eval a X.env) :: starEach rest X.env) (hpl : (backTo pos (starEach rest X.env)).any (·.1) = false) :
    QE X cl W (.Call (.Name "sum" p) (a :: rest) [] pos) (eCB fSum R) :=
  q_cb (cr_sum hc) (fun H m ds vs Q r hm ⟨i, ns, e, h1, h2⟩ => by
    subst e
    obtain ⟨v, rfl, q⟩ := reps1 r
    cases q
    obtain ⟨ws, q1, q2⟩ := hm.rl h1
    have e := q2.ints
    subst e
    exact ⟨i, ns, rfl, q1, h2 _ _ rfl hm (Ext.refl H)⟩) (fun ds m k k' hk ⟨z, j, e, h1, h2⟩ => ⟨z, j, e, h1, hk _ _ h2⟩) (by decide +kernel) (by decide) (by decide) hg hm ha he hpl

/-- max, min of a list of ints -/
def fMax1 : List D → Mp → K3 → Prop := fun ds m k => ∃ q, ∃ ns : List Int, ds = [.ref q] ∧ RL m q (ns.map D.int) ∧ 0 < ns.length ∧ ∀ i, i ∈ ns → (∀ y, y ∈ ns → y ≤ i) → k (.int i) m
def fMin1 : List D → Mp → K3 → Prop := fun ds m k => ∃ q, ∃ ns : List Int, ds = [.ref q] ∧ RL m q (ns.map D.int) ∧ 0 < ns.length ∧ ∀ i, i ∈ ns → (∀ y, y ∈ ns → i ≤ y) → k (.int i) m
theorem q_max1 (hc : X.calm = true) (hg : Gl X "max") (hm : X.mg "max" = none) (ha : QA X cl W (a :: rest) R) (he : starEach (a :: rest) X.env = (false, eval a X.env) :: starEach rest X.env) (hpl : (backTo pos (starEach rest X.env)).any (·.1) = false) :
    QE X cl W (.Call (.Name "max" p) (a :: rest) [] pos) (eCB fMax1 R) :=
  q_cb (cr_max hc) (fun H m ds vs Q r hm ⟨i, ns, e, h1, h0, h2⟩ => by
    subst e
    obtain ⟨v, rfl, q⟩ := reps1 r
    cases q
    obtain ⟨ws, q1, q2⟩ := hm.rl h1
    have e := q2.ints
    subst e
    exact ⟨i, ns, rfl, q1, h0, fun j j1 j2 => h2 j j1 j2 _ _ rfl hm (Ext.refl H)⟩) (fun ds m k k' hk ⟨z, j, e, h1, h0, h2⟩ => ⟨z, j, e, h1, h0, fun j j1 j2 => hk _ _ (h2 j j1 j2)⟩) (by decide +kernel) (by decide) (by decide) hg hm ha he hpl
theorem q_min1 (hc : X.calm = true) (hg : Gl X "min") (hm : X.mg "min" = none) (ha : QA X cl W (a :: rest) R) (he : starEach (a :: rest) X.env = (false, eval a X.env) :: starEach rest X.env) (hpl : (backTo pos (starEach rest X.env)).any (·.1) = false) :
    QE X cl W (.Call (.Name "min" p) (a :: rest) [] pos) (eCB fMin1 R) :=
  q_cb (cr_min hc) (fun H m ds vs Q r hm ⟨i, ns, e, h1, h0, h2⟩ => by
    subst e
    obtain ⟨v, rfl, q⟩ := reps1 r
    cases q
    obtain ⟨ws, q1, q2⟩ := hm.rl h1
    have e := q2.ints
    subst e
    exact ⟨i, ns, rfl, q1, h0, fun j j1 j2 => h2 j j1 j2 _ _ rfl hm (Ext.refl H)⟩) (fun ds m k k' hk ⟨z, j, e, h1, h0, h2⟩ => ⟨z, j, e, h1, h0, fun j j1 j2 => hk _ _ (h2 j j1 j2)⟩) (by decide +kernel) (by decide) (by decide) hg hm ha he hpl

/-! ### isinstance with a built-in class -/
inductive TyD (m : Mp) : D → String → Prop where
  | non : TyD m .non "NoneType"
  | bl (b : Bool) : TyD m (.bl b) "bool"
  | int (b : Int) : TyD m (.int b) "int"
  | str (b : Str) : TyD m (.str b) "str"
  | tup (b : List D) : TyD m (.tup b) "tuple"
  | lst {p : Addr} {l : List D} (h : RL m p l) : TyD m (.ref p) "list"
  | dK {p : Addr} {l : List (Key × D)} (h : m p = some (.dK l)) : TyD m (.ref p) "dict"
  | dT {p : Addr} {l : List (List Key × D)} (h : m p = some (.dT l)) : TyD m (.ref p) "dict"
theorem TyD.up {m : Mp} {d : D} {t : String} {H : Hp} {v : V} (h : TyD m d t) (r : Rep X.K H d v) (hm : Ab X.K cl H m) : TyX X.K H v (.type t) := by
  cases h with
  | non => cases r; exact .base .non
  | bl b => cases r; exact .base (.bl b)
  | int b => cases r; exact .base (.int b)
  | str b => cases r; exact .base (.str b)
  | tup l =>
    obtain ⟨a, vs, rfl, h1, _⟩ := r
    rcases h1 with (h1 | ⟨o, h1⟩) | ⟨o, its, n, h1, h2, _⟩
    · exact .base (.tup h1)
    · exact .fTuple h1
    · exact .kTuple h1 h2
  | lst h =>
    cases r
    rcases h with h | h | h
    · obtain ⟨vs, h1, _⟩ := hm.1 _ _ h
      exact .base (.lst h1)
    · obtain ⟨o, vs, h1, _⟩ := hm.1 _ _ h
      exact .base (.frz h1)
    · obtain ⟨vs, ⟨o, its, n, h1, h2, _⟩, _⟩ := hm.2 _ _ h
      exact .kList h1 h2
  | dK h =>
    cases r
    obtain ⟨vs, h1, _⟩ := hm.1 _ _ h
    exact .base (.dK h1)
  | dT h =>
    cases r
    obtain ⟨vs, h1, _⟩ := hm.1 _ _ h
    exact .base (.dT h1)
/-- isinstance(x, T), T a built-in class -/
def fIsi : List D → Mp → K3 → Prop := fun ds m k => ∃ d T t b, ds = [d, .ty T] ∧ TyD m d t ∧ kitB t T = some b ∧ k (.bl b) m
theorem q_isi (hg : Gl X "isinstance") (hm : X.mg "isinstance" = none) (ha : QA X cl W (a :: rest) R) (he : starEach (a :: rest) X.env = (false, eval a X.env) :: starEach rest X.env) (hpl : (backTo pos (starEach rest X.env)).any (·.1) = false) :
    QE X cl W (.Call (.Name "isinstance" p) (a :: rest) [] pos) (eCB fIsi R) :=
  q_cb call_isi (fun H m ds vs Q r hm ⟨d, T, t, b, e, h1, h2, h3⟩ => by
    subst e
    obtain ⟨v, w, rfl, q, q'⟩ := reps2 r
    cases q'
    exact ⟨v, .ty T, .type t, .type T, b, rfl, .ty T, h1.up q hm, kit_ty h2, h3 _ _ rfl hm (Ext.refl H)⟩) (fun ds m k k' hk ⟨d, T, t, b, e, h1, h2, h3⟩ => ⟨d, T, t, b, e, h1, h2, hk _ _ h3⟩) (by decide +kernel) (by decide) (by decide) hg hm ha he hpl
/-- a built-in class as a value -/
theorem q_ty {x : Str} {T : String} (hv : bootBuiltins x = some (.type T)) (hn : x ≠ "__name__") (hdb : (x == ("__debug__" : Str)) = false) (hg : Gl X x) (hm : X.mg x = none) : QE X cl W (.Name x p) (eLit (.ty T)) :=
  lit_of (pe_bltn (v := V.ty T) hg hm hv rfl hn hdb) fun _ => rfl

/-! ### own defs -/
/-- a def's promise: al: what is given beside; lev: how many calls stand within one another beneath it -/
structure FSpec where
  al : Type
  lev : al → Nat
  pre : al → List D → Mp → Prop
  post : al → Mp → D → Mp → Prop
  exc : al → Mp → Xc → Mp → Prop
def liftSp (K : PySem.W.Frag) (cl : Cl) (S : FSpec) (L : Nat) : Sp := fun vs H Q E => ∃ ds m a, Reps K H ds vs ∧ Ab K cl H m ∧ S.lev a < L ∧ S.pre a ds m ∧ (∀ d m', S.post a m d m' → cE K cl H Q d m') ∧
  ∀ x m', S.exc a m x m' → ∀ c dd H', RepX K cl H' x c dd → Ab K cl H' m' → Ext H H' → E c dd H'
/-- which promises stand, by the defs' numbers -/
abbrev Tb := Nat → FSpec → Prop
def callS (T : Tb) (L : Nat) (i : Nat) (ds : List D) (m : Mp) (k : K3) (x : X3) : Prop :=
  ∃ S, T i S ∧ ∃ a : S.al, S.lev a < L ∧ S.pre a ds m ∧ (∀ d m', S.post a m d m' → k d m') ∧ ∀ e m', S.exc a m e m' → x e m'
def eCall (T : Tb) (L : Nat) (i : Nat) (R : TA3) : TE3 := fun s m k x => R s m (fun ds m1 => callS T L i ds m1 k x) x
/-- what stands of a def in the written part, and its promises at a level -/
structure Kn (P : Program) (w : World) (K : PySem.W.Frag) (mg : Str → Option Value) (base : Heap) (cl : Cl) (T : Tb) (L : Nat) (i : Nat) (f : Str) (fa : Addr) : Prop where
  at_ : mg f = some (.ref fa)
  kp : PySem.W.keepIn K (.ref fa) = true
  fn : ∀ S, T i S → ∃ fd ps, FnOk P w K mg base (L2.CX P w) L fa fd ps (liftSp K cl S L) ∧ Binds K fd ps []
structure Known (X : Cx) (cl : Cl) (T : Tb) (L : Nat) (i : Nat) (f : Str) (fa : Addr) : Prop where
  kn : Kn X.prog X.w X.K X.mg X.base cl T L i f fa
  room : Room L X.A
theorem mono_call {T : Tb} {L i : Nat} (hr : MonoA R) : MonoE (eCall T L i R) := fun s m k k' x x' hk hx h => hr _ _ _ _ _ _ (fun ds m1 ⟨S, t, a, h1, h2, h3, h4⟩ => ⟨S, t, a, h1, h2, fun d m' z => hk _ _ (h3 d m' z), fun e m' z => hx _ _ (h4 e m' z)⟩) hx h
theorem q_call {T : Tb} {L i : Nat} {f : Str} {fa : Addr} (tk : Takes X W) (hf : Known X cl T L i f fa) (hg : Gl X f) (hdb : (f == ("__debug__" : Str)) = false)
    (ha : QA X cl W (a :: rest) R) (he : starEach (a :: rest) X.env = (false, eval a X.env) :: starEach rest X.env) (hpl : (backTo pos (starEach rest X.env)).any (·.1) = false) :
    QE X cl W (.Call (.Name f p) (a :: rest) [] pos) (eCall T L i R) := by
  refine ⟨mono_call ha.mono, ⟨fun pins s0 σ H Q I h => ?_⟩⟩
  obtain ⟨s, m, hs, hm, h⟩ := h
  refine wpAny_Call_Name_kw (ld_glob I hg hf.kn.at_ ?_ hdb)
  have hA : upA X.K cl W R σ H (fun vs H1 => ∃ ds m1, Reps X.K H1 ds vs ∧ Ab X.K cl H1 m1 ∧ Ext H H1 ∧ callS T L i ds m1 (cE X.K cl H Q) (cX X.K cl W H σ)) :=
    ⟨s, m, hs, hm, ha.mono _ _ _ _ _ _ (fun ds m1 z vs H1 r1 hm1 e1 => ⟨ds, m1, r1, hm1, e1, z⟩) (fun _ _ z => z) h⟩
  refine PySem.W.callWith_K (h₀ := X.base) I.ok.mod.kin hf.kn.kp (thn (ha.run.run pos pins s0 σ H _ I hA) fun us s1 ⟨vs, H1, I1, r, ds, m1, r1, hm1, e1, S, t, al, h1, h2, h3, h4⟩ => ⟨I1.kIn, ?_⟩) he hpl
  obtain ⟨fd, ps, F, hb⟩ := hf.kn.fn S t
  exact run_fnS F hf.room hb (passAt tk σ) I1 r ⟨ds, m1, al, r1, hm1, h1, h2, fun d m' z => cE_ext e1 (h3 d m' z), fun x m' z c dd H' a b e => h4 x m' z c dd H' a b (e1.trans e)⟩
theorem q_call0 {T : Tb} {L i : Nat} {f : Str} {fa : Addr} (tk : Takes X W) (hf : Known X cl T L i f fa) (hg : Gl X f) (hdb : (f == ("__debug__" : Str)) = false) :
    QE X cl W (.Call (.Name f p) [] [] pos) (eCall T L i aNil) := by
  refine ⟨mono_call (qa_nil (X := X) (cl := cl) (W := W)).mono, ⟨fun pins s0 σ H Q I h => ?_⟩⟩
  obtain ⟨s, m, hs, hm, S, t, al, h1, h2, h3, h4⟩ := h
  refine wpAny_Call_Name_kw (ld_glob I hg hf.kn.at_ ?_ hdb)
  obtain ⟨fd, ps, F, hb⟩ := hf.kn.fn S t
  exact PySem.W.callWith_K0 I.kIn hf.kn.kp (run_fnS (us := []) F hf.room hb (passAt tk σ) I .nil ⟨[], m, al, rfl, hm, h1, h2, h3, h4⟩)
/-- a constant of the module -/
theorem q_con {x : Str} {d : D} {v : V} (hg : Gl X x) (hm : ∃ u, X.mg x = some u ∧ RelV v u) (q : ∀ H, Rep X.K H d v) (hd : (x == ("__debug__" : Str)) = false) : QE X cl W (.Name x p) (eLit d) := by
  obtain ⟨u, h1, h2⟩ := hm
  exact q_glob hg h1 h2 q hd
theorem room66 {A : Around} {k : Nat} (r : Room k A) : A.units + 64 + 2 < cLine := by have := r.un; omega
end
end PV

/-! Targets, what is walked, statements, comprehensions, a def's promise. -/
namespace PV
open PySem L2 PyProof.Rows
section
variable {X : Cx} {cl : Cl} {W : WX} {a b c tg : Expr} {A B C : TE3} {rest : List Expr} {R : TA3} {pos p : Pos}

/-! ### targets -/
abbrev TG3 := D → S3 → Mp → (S3 → Mp → Prop) → Prop
abbrev TGs3 := List D → S3 → Mp → (S3 → Mp → Prop) → Prop
def upG (K : PySem.W.Frag) (cl : Cl) (g : TG3) : TG := fun v σ H Q => ∃ d s m, Rep K H d v ∧ RepS K H s σ ∧ Ab K cl H m ∧ g d s m (cS K cl H Q)
def upGs (K : PySem.W.Frag) (cl : Cl) (g : TGs3) : TGs := fun vs σ H Q => ∃ ds s m, Reps K H ds vs ∧ RepS K H s σ ∧ Ab K cl H m ∧ g ds s m (cS K cl H Q)
def MonoG (g : TG3) : Prop := ∀ d s m k k', (∀ s m, k s m → k' s m) → g d s m k → g d s m k'
def MonoGs (g : TGs3) : Prop := ∀ d s m k k', (∀ s m, k s m → k' s m) → g d s m k → g d s m k'
structure QG (X : Cx) (cl : Cl) (tg : Expr) (g : TG3) : Prop where
  mono : MonoG g
  run : PG X tg (upG X.K cl g)
structure QGs (X : Cx) (cl : Cl) (tg : List Expr) (g : TGs3) : Prop where
  mono : MonoGs g
  run : PGs X tg (upGs X.K cl g)
theorem PG.imp {t t' : TG} (h : PG X tg t) (i : ∀ v σ H Q, t' v σ H Q → t v σ H Q) : PG X tg t' := ⟨fun pins s σ H v u Q I r q => h.run pins s σ H v u Q I r (i v σ H Q q)⟩
theorem PGs.imp {t t' : TGs} (h : PGs X rest t) (i : ∀ v σ H Q, t' v σ H Q → t v σ H Q) : PGs X rest t' := ⟨fun pins s σ H v u Q I r q => h.run pins s σ H v u Q I r (i v σ H Q q)⟩
def gNm (i : Nat) : TG3 := fun d s m k => k (s.set i (some d)) m
theorem qg_name {i : Nat} {x : Str} (hN : X.N.Nodup) (hi : X.N[i]? = some x) (hx : Loc X.env.scope x) (hf : X.fn x = true ∨ X.env.scope.names.lookup x = some .local) : QG X cl (.Name x pos) (gNm i) :=
  ⟨fun d s m k k' hk h => hk _ _ h, PG.imp (pg_name hN hi hx hf) fun v σ H Q ⟨d, s, m, r, hs, hm, h⟩ => h _ H (hs.set r i) hm (Ext.refl H)⟩
def gs0 : TGs3 := fun ds s m k => ds = [] ∧ k s m
def gs1 (g : TG3) (gs : TGs3) : TGs3 := fun ds s m k => ∃ d r, ds = d :: r ∧ g d s m (fun s' m' => gs r s' m' k)
theorem qgs_nil : QGs X cl [] gs0 := ⟨fun d s m k k' hk ⟨e, h⟩ => ⟨e, hk _ _ h⟩, PGs.imp pgs_nil fun vs σ H Q ⟨ds, s, m, r, hs, hm, e, h⟩ => by
  subst e
  cases r
  exact ⟨rfl, h σ H hs hm (Ext.refl H)⟩⟩
theorem qgs_cons {g : TG3} {gs : TGs3} (h1 : QG X cl a g) (h2 : QGs X cl rest gs) (hs : (assignEach (a :: rest) X.env).map (·.2) = assign a X.env :: (assignEach rest X.env).map (·.2)) : QGs X cl (a :: rest) (gs1 g gs) :=
  ⟨fun ds s m k k' hk ⟨d, r, e, h⟩ => ⟨d, r, e, h1.mono _ _ _ _ _ (fun s' m' z => h2.mono _ _ _ _ _ hk z) h⟩, PGs.imp (pgs_cons h1.run h2.run hs) fun vs σ H Q ⟨ds, s, m, r, hs, hm, d, dr, e, h⟩ => by
    subst e
    obtain ⟨v, vr, rfl, r1, r2⟩ := r
    exact ⟨v, vr, rfl, d, s, m, r1, hs, hm, h1.mono _ _ _ _ _ (fun s' m' z σ' H' hs' hm' e' => ⟨dr, s', m', r2.mono e', hs', hm', h2.mono _ _ _ _ _ (fun _ _ w => cS_ext e' w) z⟩) h⟩⟩
/-- a, b, .. = a tuple of that length; = a list -/
def gTp (n : Nat) (gs : TGs3) : TG3 := fun d s m k => ∃ l, d = .tup l ∧ l.length = n ∧ gs l s m k
def gLs (n : Nat) (gs : TGs3) : TG3 := fun d s m k => ∃ q l, d = .ref q ∧ RL m q l ∧ l.length = n ∧ gs l s m k
theorem qg_tup {gs : TGs3} {n k : Nat} (hc : X.calm = true) (h : QGs X cl rest gs) (hn : (assignEach rest X.env).length = n) (hst : (assignEach rest X.env).findIdx? (·.1) = none) : QG X cl (.Tuple rest k pos) (gTp n gs) :=
  ⟨fun d s m k k' hk ⟨l, e, z, h'⟩ => ⟨l, e, z, h.mono _ _ _ _ _ hk h'⟩, PG.imp (pg_tup hc h.run hn hst) fun v σ H Q ⟨d, s, m, r, hs, hm, l, e, z, h'⟩ => by
    subst e
    obtain ⟨q, vs, rfl, q1, q2⟩ := r
    exact ⟨q, vs, rfl, q1, by rw [← q2.length]; exact z, l, s, m, q2, hs, hm, h'⟩⟩
theorem qg_lst {gs : TGs3} {n k : Nat} (hc : X.calm = true) (h : QGs X cl rest gs) (hn : (assignEach rest X.env).length = n) (hst : (assignEach rest X.env).findIdx? (·.1) = none) : QG X cl (.Tuple rest k pos) (gLs n gs) :=
  ⟨fun d s m k k' hk ⟨q, l, e, z, y, h'⟩ => ⟨q, l, e, z, y, h.mono _ _ _ _ _ hk h'⟩, PG.imp (pg_unl hc h.run hn hst) fun v σ H Q ⟨d, s, m, r, hs, hm, q, l, e, z, y, h'⟩ => by
    subst e
    have r' : v = .ref q := r
    obtain ⟨vs, q1, q2⟩ := hm.rl z
    exact ⟨q, vs, r', q1, by rw [← q2.length]; exact y, l, s, m, q2, hs, hm, h'⟩⟩

/-! ### what is walked -/
/-- from H0 on J walks l, while R stands -/
def Walk3 (K : PySem.W.Frag) (cl : Cl) (H0 : Hp) (J : It) (l : List D) (R : Mp → Prop) : Prop := ∀ i H m, Ext H0 H → Ab K cl H m → R m → i ≤ l.length →
  (i = l.length → J.stop i H) ∧ ∀ d, l[i]? = some d → J.go i H ∧ ∀ x H', J.yld i H x H' → Rep K H' d x ∧ Ab K cl H' m ∧ Ext H H'
abbrev TI3 := S3 → Mp → (List D → (Mp → Prop) → Mp → Prop) → X3 → Prop
def MonoI (T : TI3) : Prop := ∀ s m k k' x x', (∀ l R m, k l R m → k' l R m) → (∀ e m, x e m → x' e m) → T s m k x → T s m k' x'
def upI (K : PySem.W.Frag) (cl : Cl) (W : WX) (T : TI3) : TI := fun σ H R' => ∃ s m, RepS K H s σ ∧ Ab K cl H m ∧ T s m (fun l R m1 => ∀ J H1, Walk3 K cl H1 J l R → Ab K cl H1 m1 → Ext H H1 → R' J H1) (cX K cl W H σ)
structure QI (X : Cx) (cl : Cl) (W : WX) (tg e : Expr) (T : TI3) : Prop where
  mono : MonoI T
  run : PI X tg e (upI X.K cl W T)
theorem PI.imp {e : Expr} {t t' : TI} (h : PI X tg e t) (i : ∀ σ H Q, t' σ H Q → t σ H Q) : PI X tg e t' := ⟨fun pins s σ H Q I q => h.run pins s σ H Q I (i σ H Q q)⟩
theorem walk_list {q : Addr} {l : List D} {H0 : Hp} : Walk3 X.K cl H0 (Itl X.K q) l fun m => RL m q l := fun i H m e0 hm h hi => by
  obtain ⟨vs, q1, q2⟩ := hm.rl h
  refine ⟨fun e => ⟨vs, q1, by rw [← q2.length]; omega⟩, fun d hd => ?_⟩
  obtain ⟨v, e1, r1⟩ := q2.get hd
  refine ⟨⟨vs, v, q1, e1⟩, fun x H' ⟨eH, hx⟩ => ?_⟩
  subst eH
  have e2 := hx vs q1
  rw [e1] at e2; cases e2
  exact ⟨r1, hm, Ext.refl _⟩
theorem walk_tup {q : Addr} {l : List D} {vs : List V} {H0 : Hp} (h1 : SqT X.K H0 q vs) (h2 : Reps X.K H0 l vs) : Walk3 X.K cl H0 (Itt X.K q) l fun _ => True := fun i H m e0 hm _ hi => by
  have q1 := e0.sqT h1
  have q2 := h2.mono e0
  refine ⟨fun e => ⟨vs, q1, by rw [← q2.length]; omega⟩, fun d hd => ?_⟩
  obtain ⟨v, e1, r1⟩ := q2.get hd
  refine ⟨⟨vs, v, q1, e1⟩, fun x H' ⟨eH, hx⟩ => ?_⟩
  subst eH
  have e2 := hx vs q1
  rw [e1] at e2; cases e2
  exact ⟨r1, hm, Ext.refl _⟩
def signs (z : Str) : List D := z.cps.toList.map fun c => .str ⟨#[c]⟩
theorem walk_str {z : Str} {H0 : Hp} : Walk3 X.K cl H0 (Its z) (signs z) fun _ => True := fun i H m e0 hm _ hi => by
  have hl : (signs z).length = z.cps.size := by unfold signs; simp
  refine ⟨fun e => by rw [hl] at e; exact Nat.le_of_eq e.symm, fun d hd => ?_⟩
  have hi' : i < z.cps.size := by rw [← hl]; exact (List.getElem?_eq_some_iff.mp hd).1
  refine ⟨hi', fun x H' ⟨eH, c, hc, hx⟩ => ?_⟩
  subst eH hx
  unfold signs at hd
  rw [List.getElem?_map, Array.getElem?_toList, hc] at hd
  cases hd
  exact ⟨rfl, hm, Ext.refl _⟩
theorem repk_at {K : PySem.W.Frag} {H : Hp} : ∀ {kvs : List (Key × D)} {kws : List (Key × V)}, RepK K H kvs kws → kws.map (·.1) = kvs.map (·.1)
  | [], _, h => by cases h; rfl
  | (k, d) :: r, _, h => by
    obtain ⟨v, r', rfl, _, h3⟩ := h
    rw [List.map_cons, List.map_cons, repk_at h3]
/-- the keys of a locked dict -/
theorem walk_keys {q : Addr} {o : Obj} {kvs : List (Key × D)} {kws : List (Key × V)} {H0 : Hp} (h1 : H0 q = some (.frz o (.dK kws))) (h2 : RepK X.K H0 kvs kws) : Walk3 X.K cl H0 (Itk q o kws) (kvs.map fun e => keyD e.1) fun m => m q = some (.rdK kvs) := fun i H m e0 hm _ hi => by
  have hk := repk_at h2
  have hl : kws.length = kvs.length := by simpa using congrArg List.length hk
  rw [List.length_map] at hi
  refine ⟨fun e => ⟨e0.2 _ _ _ h1, by rw [List.length_map] at e; omega⟩, fun d hd => ?_⟩
  rw [List.getElem?_map] at hd
  cases ek : kvs[i]? with
  | none => rw [ek] at hd; cases hd
  | some p =>
    rw [ek] at hd
    cases hd
    have hlt : i < kvs.length := (List.getElem?_eq_some_iff.mp ek).1
    refine ⟨⟨e0.2 _ _ _ h1, by omega⟩, fun x H' ⟨eH, k, v, hx, ex⟩ => ?_⟩
    subst eH ex
    have e2 : (kws.map (·.1))[i]? = some k := by rw [List.getElem?_map, hx]; rfl
    rw [hk, List.getElem?_map, ek] at e2
    cases e2
    exact ⟨key_rep _, hm, Ext.refl _⟩
def itD : D → Mp → (List D → (Mp → Prop) → Mp → Prop) → Prop
  | .ref p, m, k => (∃ l, RL m p l ∧ k l (fun m' => RL m' p l) m) ∨ ∃ kvs : List (Key × D), m p = some (.rdK kvs) ∧ k (kvs.map fun e => keyD e.1) (fun m' => m' p = some (.rdK kvs)) m
  | .tup l, m, k => k l (fun _ => True) m
  | .str z, m, k => k (signs z) (fun _ => True) m
  | _, _, _ => False
theorem mono_itD {d : D} {m : Mp} {k k' : List D → (Mp → Prop) → Mp → Prop} (hk : ∀ l R m, k l R m → k' l R m) (h : itD d m k) : itD d m k' := by
  unfold itD at h ⊢
  split at h
  · rcases h with ⟨l, h1, h2⟩ | ⟨l, h1, h2⟩
    · exact .inl ⟨l, h1, hk _ _ _ h2⟩
    · exact .inr ⟨l, h1, hk _ _ _ h2⟩
  · exact hk _ _ _ h
  · exact hk _ _ _ h
  · exact h.elim
/-- a list, a tuple, a text, walked -/
def iSq (A : TE3) : TI3 := fun s m k x => A s m (fun d m1 => itD d m1 k) x
theorem qi_seq (ha : QE X cl W a A) : QI X cl W tg a (iSq A) := by
  refine ⟨fun s m k k' x x' hk hx h => ha.mono _ _ _ _ _ _ (fun d m1 z => mono_itD hk z) hx h, ⟨fun pins s0 σ H R' I h => ?_⟩⟩
  obtain ⟨s, m, hs, hm, h⟩ := h
  have hA : upE X.K cl W A σ H (fun v H1 => ∃ d m1, Rep X.K H1 d v ∧ Ab X.K cl H1 m1 ∧ Ext H H1 ∧ itD d m1 (fun l R m1 => ∀ J H1, Walk3 X.K cl H1 J l R → Ab X.K cl H1 m1 → Ext H H1 → R' J H1)) :=
    ⟨s, m, hs, hm, ha.mono _ _ _ _ _ _ (fun d m1 z v H1 r hm1 e1 => ⟨d, m1, r, hm1, e1, z⟩) (fun _ _ z => z) h⟩
  refine thn (ha.run.run pins s0 σ H _ I hA) fun u s1 ⟨v, H1, I1, rv, d, m1, r, hm1, e1, z⟩ => ?_
  unfold itD at z
  split at z
  · rename_i q
    have r' : v = .ref q := r
    subst r'
    cases rv
    rcases z with ⟨l, h1, h2⟩ | ⟨kvs, h1, h2⟩
    case' inr =>
      obtain ⟨o, kws, h3, h4⟩ := hm1.1 q _ h1
      obtain ⟨y1, y2, y3, y4, y5, y6, y7, y8, y9, y10⟩ := I1.frzK h3
      refine L2.iter_keys y1 y2 y3 y7 (pi_one (tk := s1.toks) I1 _ (turn_keys _ y7) ⟨_, Heap.get?_push_size _ rfl, rfl, ?_⟩ (h2 _ H1 (walk_keys h3 h4) hm1 e1))
      rw [y8] <;> rfl
    obtain ⟨vs, q1, q2⟩ := hm1.rl h1
    obtain ⟨its, ri, pl, _⟩ := I1.list q1
    exact wpAny_pyIter_list pl.isList (pi_one (tk := s1.toks) I1 _ (turn_list q _) ⟨_, Heap.get?_push_size _ rfl, rfl, rfl⟩ (h2 _ H1 walk_list hm1 e1))
  · rename_i l
    obtain ⟨q, vs, rfl, q1, q2⟩ := r
    cases rv
    obtain ⟨its, ri, pl, _⟩ := I1.tuple q1
    exact wpAny_pyIter_tuple (show s1.heap.IsTuple q its.toArray from pl) (pi_one (tk := s1.toks) I1 _ (turn_tuple q _) ⟨_, Heap.get?_push_size _ rfl, rfl, rfl⟩ (z _ H1 (walk_tup q1 q2) hm1 e1))
  · rename_i y
    have r' : v = .str y := r
    subst r'
    obtain ⟨t, rfl⟩ := rv
    have q := z _ H1 walk_str hm1 e1
    cases hy : y.cps.all (· < 128)
    · exact wpAny_pyIter_wide hy (pi_one (tk := s1.toks) I1 _ (turn_str _ y t "str_iterator" (.inr rfl)) ⟨_, Heap.get?_push_size _ rfl, rfl, rfl⟩ q)
    · exact wpAny_pyIter_ascii hy (pi_one (tk := s1.toks) I1 _ (turn_str _ y t "str_ascii_iterator" (.inl rfl)) ⟨_, Heap.get?_push_size _ rfl, rfl, rfl⟩ q)
  · exact z.elim
/-- range -/
def rngD (lo c : Int) (n : Nat) : List D := (List.range n).map fun i => .int (lo + (i : Nat) * c)
theorem rngD_get {lo c : Int} {n i : Nat} {d : D} (h : (rngD lo c n)[i]? = some d) : i < n ∧ d = .int (lo + (i : Nat) * c) := by
  unfold rngD at h
  rw [List.getElem?_map] at h
  cases e : (List.range n)[i]? with
  | none => rw [e] at h; cases h
  | some j =>
    rw [e] at h
    obtain ⟨h1, h2⟩ := List.getElem?_eq_some_iff.mp e
    rw [List.length_range] at h1
    rw [List.getElem_range] at h2
    subst h2
    exact ⟨h1, (Option.some.inj h).symm⟩
theorem rngD_length {lo c : Int} {n : Nat} : (rngD lo c n).length = n := by unfold rngD; simp
theorem walk_rng {lo : Int} {n : Nat} {H0 : Hp} : Walk3 X.K cl H0 (Itr lo n) (rngD lo 1 n) fun _ => True := fun i H m e0 hm _ hi => by
  refine ⟨fun e => by rw [rngD_length] at e; exact Nat.le_of_eq e.symm, fun d hd => ?_⟩
  obtain ⟨h1, h2⟩ := rngD_get hd
  refine ⟨h1, fun x H' ⟨eH, hx⟩ => ?_⟩
  subst eH hx h2
  rw [Int.mul_one]
  exact ⟨rfl, hm, Ext.refl _⟩
theorem walk_rngC {lo c : Int} {n : Nat} {H0 : Hp} : Walk3 X.K cl H0 (Itc lo c n) (rngD lo c n) fun _ => True := fun i H m e0 hm _ hi => by
  refine ⟨fun e => by rw [rngD_length] at e; exact Nat.le_of_eq e.symm, fun d hd => ?_⟩
  obtain ⟨h1, h2⟩ := rngD_get hd
  refine ⟨h1, fun x H' ⟨eH, hx⟩ => ?_⟩
  subst eH hx h2
  exact ⟨rfl, hm, Ext.refl _⟩
def B62 (i : Int) : Prop := -(2 ^ 62) ≤ i ∧ i < 2 ^ 62
def iR1 (R : TA3) : TI3 := fun s m k x => R s m (fun ds m1 => ∃ j : Int, ds = [.int j] ∧ B62 j ∧ k (rngD 0 1 j.toNat) (fun _ => True) m1) x
def iR2 (R : TA3) : TI3 := fun s m k x => R s m (fun ds m1 => ∃ i j : Int, ds = [.int i, .int j] ∧ B62 i ∧ B62 j ∧ k (rngD i 1 (j - i).toNat) (fun _ => True) m1) x
def iR3 (R : TA3) : TI3 := fun s m k x => R s m (fun ds m1 => ∃ (i j c : Int) (n : Nat), ds = [.int i, .int j, .int c] ∧ RgC i j c n ∧ k (rngD i c n) (fun _ => True) m1) x
theorem qi_rng1 (hg : Gl X "range") (hm : X.mg "range" = none) (ha : QA X cl W [a] R) (hs : starEach [a] X.env = [(false, eval a X.env)]) : QI X cl W tg (.Call (.Name "range" p) [a] [] pos) (iR1 R) :=
  ⟨fun s m k k' x x' hk hx h => ha.mono _ _ _ _ _ _ (fun ds m1 ⟨j, e, z, w⟩ => ⟨j, e, z, hk _ _ _ w⟩) hx h,
   PI.imp (pi_range1 hg hm ha.run hs) fun σ H Q ⟨s, m, h1, h2, h⟩ => ⟨s, m, h1, h2, ha.mono _ _ _ _ _ _ (fun ds m1 ⟨j, e, z, w⟩ vs H1 r hm1 e1 => by
    subst e
    obtain ⟨v, rfl, q⟩ := reps1 r
    cases q
    exact ⟨j, rfl, z.1, z.2, w _ H1 walk_rng hm1 e1⟩) (fun _ _ z => z) h⟩⟩
theorem qi_rng2 (hg : Gl X "range") (hm : X.mg "range" = none) (ha : QA X cl W [a, b] R) (hs : starEach [a, b] X.env = [(false, eval a X.env), (false, eval b X.env)]) (hs2 : starEach [b] X.env = [(false, eval b X.env)]) : QI X cl W tg (.Call (.Name "range" p) [a, b] [] pos) (iR2 R) :=
  ⟨fun s m k k' x x' hk hx h => ha.mono _ _ _ _ _ _ (fun ds m1 ⟨i, j, e, z, y, w⟩ => ⟨i, j, e, z, y, hk _ _ _ w⟩) hx h,
   PI.imp (pi_range2 hg hm ha.run hs hs2) fun σ H Q ⟨s, m, h1, h2, h⟩ => ⟨s, m, h1, h2, ha.mono _ _ _ _ _ _ (fun ds m1 ⟨i, j, e, z, y, w⟩ vs H1 r hm1 e1 => by
    subst e
    obtain ⟨v, v', rfl, q, q'⟩ := reps2 r
    cases q
    cases q'
    exact ⟨i, j, rfl, ⟨z.1, z.2, y.1, y.2⟩, w _ H1 walk_rng hm1 e1⟩) (fun _ _ z => z) h⟩⟩
theorem reps3 {K : PySem.W.Frag} {H : Hp} {d e f : D} {vs : List V} (h : Reps K H [d, e, f] vs) : ∃ v w u, vs = [v, w, u] ∧ Rep K H d v ∧ Rep K H e w ∧ Rep K H f u := by
  obtain ⟨v, r, rfl, h1, h2⟩ := h
  obtain ⟨w, u, rfl, h3, h4⟩ := reps2 h2
  exact ⟨v, w, u, rfl, h1, h3, h4⟩
theorem qi_rng3 (hg : Gl X "range") (hm : X.mg "range" = none) (ha : QA X cl W [a, b, c] R) (hs : starEach [a, b, c] X.env = (false, eval a X.env) :: starEach [b, c] X.env) (hpl : (backTo pos (starEach [b, c] X.env)).any (·.1) = false) : QI X cl W tg (.Call (.Name "range" p) [a, b, c] [] pos) (iR3 R) :=
  ⟨fun s m k k' x x' hk hx h => ha.mono _ _ _ _ _ _ (fun ds m1 ⟨i, j, c, n, e, z, w⟩ => ⟨i, j, c, n, e, z, hk _ _ _ w⟩) hx h,
   PI.imp (pi_range3 hg hm ha.run hs hpl) fun σ H Q ⟨s, m, h1, h2, h⟩ => ⟨s, m, h1, h2, ha.mono _ _ _ _ _ _ (fun ds m1 ⟨i, j, c, n, e, z, w⟩ vs H1 r hm1 e1 => by
    subst e
    obtain ⟨v, v', v2, rfl, q, q', q2⟩ := reps3 r
    cases q
    cases q'
    cases q2
    exact ⟨i, j, c, n, rfl, z, w _ H1 walk_rngC hm1 e1⟩) (fun _ _ z => z) h⟩⟩
/-- zip of two lists, of two tuples -/
def zipD (l r : List D) : List D := (l.zip r).map fun p => .tup [p.1, p.2]
theorem zipD_get {l r : List D} {i : Nat} {d : D} (h : (zipD l r)[i]? = some d) : ∃ x y, l[i]? = some x ∧ r[i]? = some y ∧ d = .tup [x, y] := by
  unfold zipD at h
  rw [List.getElem?_map] at h
  cases e : (l.zip r)[i]? with
  | none => rw [e] at h; cases h
  | some p =>
    rw [e] at h
    obtain ⟨h1, h2⟩ := List.getElem?_zip_eq_some.mp e
    exact ⟨p.1, p.2, h1, h2, (Option.some.inj h).symm⟩
theorem zipD_length {l r : List D} : (zipD l r).length = min l.length r.length := by unfold zipD; simp
theorem walk_zip {q q' : Addr} {l r : List D} {H0 : Hp} : Walk3 X.K cl H0 (Itz X.K q q') (zipD l r) fun m => RL m q l ∧ RL m q' r := fun i H m e0 hm ⟨h, h'⟩ hi => by
  obtain ⟨vs, q1, q2⟩ := hm.rl h
  obtain ⟨ws, q3, q4⟩ := hm.rl h'
  refine ⟨fun e => ⟨vs, ws, q1, q3, by rw [zipD_length] at e; rw [← q2.length, ← q4.length]; omega⟩, fun d hd => ?_⟩
  obtain ⟨x, y, h1, h2, rfl⟩ := zipD_get hd
  obtain ⟨v, e1, r1⟩ := q2.get h1
  obtain ⟨w, e2, r2⟩ := q4.get h2
  refine ⟨⟨vs, ws, v, w, q1, q3, e1, e2⟩, fun z H' ⟨T, a, b, ez, hT, eH, ha, hb⟩ => ?_⟩
  subst ez eH
  have f1 := ha vs q1
  have f2 := hb ws q3
  rw [e1] at f1; cases f1
  rw [e2] at f2; cases f2
  exact ⟨rep_tup hT ⟨_, _, rfl, r1, _, _, rfl, r2, rfl⟩, hm.hid hT, Ext.new hT⟩
theorem walk_zipT {q q' : Addr} {l r : List D} {vs ws : List V} {H0 : Hp} (h1 : SqT X.K H0 q vs) (h2 : Reps X.K H0 l vs) (h3 : SqT X.K H0 q' ws) (h4 : Reps X.K H0 r ws) : Walk3 X.K cl H0 (RZ.ItzT X.K q q') (zipD l r) fun _ => True := fun i H m e0 hm _ hi => by
  have q1 := e0.sqT h1
  have q2 := h2.mono e0
  have q3 := e0.sqT h3
  have q4 := h4.mono e0
  refine ⟨fun e => ⟨vs, ws, q1, q3, by rw [zipD_length] at e; rw [← q2.length, ← q4.length]; omega⟩, fun d hd => ?_⟩
  obtain ⟨x, y, h1, h2, rfl⟩ := zipD_get hd
  obtain ⟨v, e1, r1⟩ := q2.get h1
  obtain ⟨w, e2, r2⟩ := q4.get h2
  refine ⟨⟨vs, ws, v, w, q1, q3, e1, e2⟩, fun z H' ⟨T, a, b, ez, hT, eH, ha, hb⟩ => ?_⟩
  subst ez eH
  have f1 := ha vs q1
  have f2 := hb ws q3
  rw [e1] at f1; cases f1
  rw [e2] at f2; cases f2
  exact ⟨rep_tup hT ⟨_, _, rfl, r1, _, _, rfl, r2, rfl⟩, hm.hid hT, Ext.new hT⟩
def iZp (R : TA3) : TI3 := fun s m k x => R s m (fun ds m1 => (∃ q q' l r, ds = [.ref q, .ref q'] ∧ RL m1 q l ∧ RL m1 q' r ∧ k (zipD l r) (fun m => RL m q l ∧ RL m q' r) m1) ∨ ∃ l r, ds = [.tup l, .tup r] ∧ k (zipD l r) (fun _ => True) m1) x
theorem qi_zip {elts : List Expr} {kk : Nat} {tpos : Pos} (hg : Gl X "zip") (hm : X.mg "zip" = none) (ha : QA X cl W [a, b] R) (hs : starEach [a, b] X.env = (false, eval a X.env) :: starEach [b] X.env) (hpl : (backTo pos (starEach [b] X.env)).any (·.1) = false) :
    QI X cl W (.Tuple elts kk tpos) (.Call (.Name "zip" p) [a, b] [] pos) (iZp R) :=
  ⟨fun s m k k' x x' hk hx h => ha.mono _ _ _ _ _ _ (fun ds m1 z => by
      rcases z with ⟨q, q', l, r, e, z1, z2, w⟩ | ⟨l, r, e, w⟩
      · exact .inl ⟨q, q', l, r, e, z1, z2, hk _ _ _ w⟩
      · exact .inr ⟨l, r, e, hk _ _ _ w⟩) hx h,
   PI.imp (RZ.pi_zipA hg hm ha.run hs hpl) fun σ H Q ⟨s, m, h1, h2, h⟩ => ⟨s, m, h1, h2, ha.mono _ _ _ _ _ _ (fun ds m1 z vs H1 r hm1 e1 => by
    rcases z with ⟨q, q', l, r', e, z1, z2, w⟩ | ⟨l, r', e, w⟩
    · subst e
      obtain ⟨v, v', rfl, y, y'⟩ := reps2 r
      cases y
      cases y'
      obtain ⟨us, q1, _⟩ := hm1.rl z1
      obtain ⟨ws, q2, _⟩ := hm1.rl z2
      exact ⟨q, q', us, ws, rfl, .inl ⟨q1, q2, w _ H1 walk_zip hm1 e1⟩⟩
    · subst e
      obtain ⟨v, v', rfl, ⟨q, us, rfl, q1, q2⟩, ⟨q', ws, rfl, q3, q4⟩⟩ := reps2 r
      exact ⟨q, q', us, ws, rfl, .inr ⟨q1, q3, w _ H1 (walk_zipT q1 q2 q3 q4) hm1 e1⟩⟩) (fun _ _ z => z) h⟩⟩
end
end PV

/-! Statements, comprehensions, a def's promise. -/
namespace PV
open PySem L2 PyProof.Rows
section
variable {X : Cx} {cl : Cl} {W : WX} {a b c tg : Expr} {A B C : TE3} {rest : List Expr} {R : TA3} {pos p : Pos} {st : Stmt} {sts sts' : List Stmt} {S S' : TS3}

theorem ex_cX {K : PySem.W.Frag} {H : Hp} {s : S3} {σ : L2.St} {D : Ends} (hs : RepS K H s σ) {x : Xc} {m : Mp} (h : (cN K cl W H D).ex s x m) : cX K cl W H σ x m := fun c dd H' r a e => h σ c dd H' (hs.mono e) r a e

theorem MonoS.to {S : TS3} (h : MonoS S) {s : S3} {m : Mp} {D D' : N3} (q : S D s m) (l : N3.Le D D') : S D' s m := h _ _ _ _ l q
theorem MonoG.to {g : TG3} (h : MonoG g) {d : D} {s : S3} {m : Mp} {k k' : S3 → Mp → Prop} (q : g d s m k) (l : ∀ s m, k s m → k' s m) : g d s m k' := h _ _ _ _ _ l q
/-! ### blocks, small statements -/
def sNil : TS3 := fun D s m => D.nx s m
def sSeq (t u : TS3) : TS3 := fun D s m => t { D with nx := fun s' m' => u D s' m' } s m
/-- .. where ways meet -/
def sSeqJ (t u : TS3) : TS3 := sSeq t u
theorem N3.Le.nx_of {D D' : N3} (h : N3.Le D D') {n n' : S3 → Mp → Prop} (q : ∀ s m, n s m → n' s m) : N3.Le { D with nx := n } { D' with nx := n' } := ⟨q, h.rt, h.bk, h.ct, h.ex⟩
theorem N3.Le.refl (D : N3) : N3.Le D D := ⟨fun _ _ h => h, fun _ _ h => h, fun _ _ h => h, fun _ _ h => h, fun _ _ _ h => h⟩
theorem mono_seq (h : MonoS S) (h' : MonoS S') : MonoS (sSeq S S') := fun s m D D' l q => h _ _ _ _ (l.nx_of fun s' m' z => h' _ _ _ _ l z) q
theorem qb_nil : QB X cl W [] sNil := ⟨fun s m D D' l q => l.nx _ _ q, PSs.imp pss_nil fun D σ H ⟨s, m, hs, hm, q⟩ => q σ H hs hm (Ext.refl H)⟩
theorem qb_one (h : QS X cl W st S) : QB X cl W [st] S := ⟨h.mono, pss_one h.run⟩
theorem qb_cons (h : QS X cl W st S) (h' : QB X cl W sts S') : QB X cl W (st :: sts) (sSeq S S') :=
  ⟨mono_seq h.mono h'.mono, PSs.imp (pss_cons h.run h'.run) fun D σ H ⟨s, m, hs, hm, q⟩ => ⟨s, m, hs, hm, h.mono.to q
    ⟨fun s' m' z σ' H' hs' hm' e => ⟨s', m', hs', hm', h'.mono.to z (cN_ext e)⟩, fun _ _ z => z, fun _ _ z => z, fun _ _ z => z, fun _ _ _ z => z⟩⟩⟩
theorem qb_consJ (h : QS X cl W st S) (h' : QB X cl W sts S') : QB X cl W (st :: sts) (sSeqJ S S') := qb_cons h h'
/-- a way that is not gone -/
def sNo : TS3 := fun _ _ _ => False
theorem qs_no : QS X cl W st sNo := ⟨fun _ _ _ _ _ h => h, PS.imp ps_never fun D σ H ⟨s, m, hs, hm, q⟩ => q⟩
theorem qb_no : QB X cl W sts sNo := ⟨fun _ _ _ _ _ h => h, PSs.imp pss_never fun D σ H ⟨s, m, hs, hm, q⟩ => q⟩
def sBrk : TS3 := fun D s m => D.bk s m
def sCnt : TS3 := fun D s m => D.ct s m
theorem qs_pass : QS X cl W (.Pass pos) sNil := ⟨fun s m D D' l q => l.nx _ _ q, PS.imp ps_pass fun D σ H ⟨s, m, hs, hm, q⟩ => q σ H hs hm (Ext.refl H)⟩
theorem qs_brk : QS X cl W (.Break pos) sBrk := ⟨fun s m D D' l q => l.bk _ _ q, PS.imp ps_break fun D σ H ⟨s, m, hs, hm, q⟩ => q σ H hs hm (Ext.refl H)⟩
theorem qs_cnt : QS X cl W (.Continue pos) sCnt := ⟨fun s m D D' l q => l.ct _ _ q, PS.imp ps_continue fun D σ H ⟨s, m, hs, hm, q⟩ => q σ H hs hm (Ext.refl H)⟩
def sExp (A : TE3) : TS3 := fun D s m => A s m (fun _ m1 => D.nx s m1) (D.ex s)
theorem qs_exp (h : QE X cl W a A) (hs : swapsWith a none pos.line X.env = pure false) : QS X cl W (.Expr a pos) (sExp A) :=
  ⟨fun s m D D' l q => h.mono _ _ _ _ _ _ (fun _ _ z => l.nx _ _ z) (fun _ _ z => l.ex _ _ _ z) q,
   PS.imp (ps_expr h.run hs) fun D σ H ⟨s, m, hs, hm, q⟩ => ⟨s, m, hs, hm, h.mono _ _ _ _ _ _ (fun d m1 z v H1 r hm1 e1 => z σ H1 (hs.mono e1) hm1 e1) (fun _ _ z => ex_cX hs z) q⟩⟩
theorem qs_doc {x j} {pos' : Pos} : QS X cl W (.Expr (.Constant (.str x) j pos) pos') sNil := ⟨fun s m D D' l q => l.nx _ _ q, PS.imp ps_doc fun D σ H ⟨s, m, hs, hm, q⟩ => q σ H hs hm (Ext.refl H)⟩
def sRet (A : TE3) : TS3 := fun D s m => A s m D.rt (D.ex s)
theorem qs_ret (h : QE X cl W a A) : QS X cl W (.Return (some a) pos) (sRet A) :=
  ⟨fun s m D D' l q => h.mono _ _ _ _ _ _ (fun _ _ z => l.rt _ _ z) (fun _ _ z => l.ex _ _ _ z) q,
   PS.imp (ps_ret h.run) fun D σ H ⟨s, m, hs, hm, q⟩ => ⟨s, m, hs, hm, h.mono _ _ _ _ _ _ (fun d m1 z => z) (fun _ _ z => ex_cX hs z) q⟩⟩
def sRetN : TS3 := fun D _ m => D.rt .non m
theorem qs_retN : QS X cl W (.Return none pos) sRetN := ⟨fun s m D D' l q => l.rt _ _ q, PS.imp ps_retN fun D σ H ⟨s, m, hs, hm, q⟩ => q _ H rfl hm (Ext.refl H)⟩
def sAsg (A : TE3) (g : TG3) : TS3 := fun D s m => A s m (fun d m1 => g d s m1 D.nx) (D.ex s)
theorem qs_asg {g : TG3} (h : QE X cl W a A) (hg : QG X cl tg g) (hs : swapsWithSole [tg] a pos.line X.env = pure false) (hw : swappedStores [tg] a X.env = pure none) (h1 : (assignEach [tg] X.env).map (·.2) = [assign tg X.env]) :
    QS X cl W (.Assign [tg] a pos) (sAsg A g) :=
  ⟨fun s m D D' l q => h.mono _ _ _ _ _ _ (fun _ _ z => hg.mono _ _ _ _ _ l.nx z) (fun _ _ z => l.ex _ _ _ z) q,
   PS.imp (ps_asg h.run hg.run hs hw h1) fun D σ H ⟨s, m, hs, hm, q⟩ => ⟨s, m, hs, hm, h.mono _ _ _ _ _ _ (fun d m1 z v H1 r hm1 e1 =>
    ⟨d, s, m1, r, hs.mono e1, hm1, hg.mono _ _ _ _ _ (fun _ _ w => cS_ext e1 w) z⟩) (fun _ _ z => ex_cX hs z) q⟩⟩
/-- a, b = x, y: two names -/
def sPar (i j : Nat) (R : TA3) : TS3 := fun D s m => R s m (fun ds m1 => ∃ u v, ds = [u, v] ∧ D.nx ((s.set i (some u)).set j (some v)) m1) (D.ex s)
theorem qs_par {i j : Nat} {x y : Str} {a b : Expr} {R : TA3} {px py pt : Pos} {kt k2 pt2} (hc : X.calm = true) (hN : X.N.Nodup) (hi : X.N[i]? = some x) (hj : X.N[j]? = some y) (hij : i ≠ j)
    (hx : X.env.scope.names.lookup x = some .local) (hy : X.env.scope.names.lookup y = some .local) (h : QA X cl W [a, b] R)
    (hw : swappedStores [.Tuple [.Name x px, .Name y py] kt pt] (.Tuple [a, b] k2 pt2) X.env = pure (some [x, y]))
    (hs : swapsWithSole [.Tuple [.Name x px, .Name y py] kt pt] (.Tuple [a, b] k2 pt2) pos.line X.env = pure false) :
    QS X cl W (.Assign [.Tuple [.Name x px, .Name y py] kt pt] (.Tuple [a, b] k2 pt2) pos) (sPar i j R) :=
  ⟨fun s m D D' l q => h.mono _ _ _ _ _ _ (fun _ _ ⟨u, v, e, z⟩ => ⟨u, v, e, l.nx _ _ z⟩) (fun _ _ z => l.ex _ _ _ z) q,
   PS.imp (ps_par hc hN hi hj hij hx hy h.run hw hs) fun D σ H ⟨s, m, hs, hm, q⟩ => ⟨s, m, hs, hm, h.mono _ _ _ _ _ _ (fun ds m1 ⟨u, v, e, z⟩ vs H1 r hm1 e1 => by
    subst e
    obtain ⟨v1, v2, rfl, q1, q2⟩ := reps2 r
    exact ⟨v1, v2, rfl, z _ H1 (((hs.mono e1).set q1 i).set q2 j) hm1 e1⟩) (fun _ _ z => ex_cX hs z) q⟩⟩
def sIf (t : TT3) (u v : TS3) : TS3 := fun D s m => t s m (fun b m1 => if b = true then u D s m1 else v D s m1) (D.ex s)
theorem qs_if {t : TT3} (ht : QT X cl W c t) (h : QB X cl W sts S) (h' : QB X cl W sts' S') : QS X cl W (.If c sts sts' pos) (sIf t S S') :=
  ⟨fun s m D D' l q => ht.mono _ _ _ _ _ _ (fun b m1 z => by
      cases b with
      | true => exact h.mono _ _ _ _ l z
      | false => exact h'.mono _ _ _ _ l z) (fun _ _ z => l.ex _ _ _ z) q,
   PS.imp (ps_if ht.run h.run h'.run) fun D σ H ⟨s, m, hs, hm, q⟩ => ⟨s, m, hs, hm, ht.mono _ _ _ _ _ _ (fun b m1 z H1 hm1 e1 => by
    cases b with
    | true => exact ⟨s, m1, hs.mono e1, hm1, h.mono _ _ _ _ (cN_ext e1) z⟩
    | false => exact ⟨s, m1, hs.mono e1, hm1, h'.mono _ _ _ _ (cN_ext e1) z⟩) (fun _ _ z => ex_cX hs z) q⟩⟩
/-- x op= e -/
def sAug (i : Nat) (A : TE3) (f : D → D → Mp → K3 → Prop) : TS3 := fun D s m => ∃ u, s[i]? = some (some u) ∧ A s m (fun v m1 => f u v m1 (fun d m2 => D.nx (s.set i (some d)) m2)) (D.ex s)
theorem qs_aug {i : Nat} {x : Str} {op : Operator} {f : D → D → Mp → K3 → Prop} {r : R2} {pos' : Pos} (hN : X.N.Nodup) (hi : X.N[i]? = some x) (hx : Loc X.env.scope x) (hfn : X.fn x = true ∨ X.env.scope.names.lookup x = some .local)
    (ho : PIp X op r) (hf : ∀ (H : Hp) (m : Mp) (u v : D) (x y : V) (Q : VK), Rep X.K H u x → Rep X.K H v y → Ab X.K cl H m → f u v m (cE X.K cl H Q) → r x y H Q) (mf : MonoF f) (h : QE X cl W a A) :
    QS X cl W (.AugAssign (.Name x pos') op a pos) (sAug i A f) :=
  ⟨fun s m D D' l ⟨u, e, q⟩ => ⟨u, e, h.mono _ _ _ _ _ _ (fun v m1 z => mf _ _ _ _ _ (fun d m2 w => l.nx _ _ w) z) (fun _ _ z => l.ex _ _ _ z) q⟩,
   PS.imp (ps_aug hN hi hx h.run ho hfn) fun D σ H ⟨s, m, hs, hm, u, e, q⟩ => by
    obtain ⟨x, e1, r1⟩ := hs.2 _ _ e
    refine ⟨x, e1, s, m, hs, hm, h.mono _ _ _ _ _ _ (fun v m1 z y H1 ry hm1 ee => ?_) (fun _ _ z => ex_cX hs z) q⟩
    exact hf H1 m1 u v x y _ (r1.mono ee) ry hm1 (mf _ _ _ _ _ (fun d m2 w w' H2 r2 hm2 e2 => w _ H2 ((hs.mono (ee.trans e2)).set r2 i) hm2 (ee.trans e2)) z)⟩
theorem aug_add {i : Nat} {x : Str} {pos' : Pos} (hN : X.N.Nodup) (hi : X.N[i]? = some x) (hx : Loc X.env.scope x) (hfn : X.fn x = true ∨ X.env.scope.names.lookup x = some .local) (h : QE X cl W a A) :
    QS X cl W (.AugAssign (.Name x pos') .Add a pos) (sAug i A (fI CT fun i j => .int (i + j))) := qs_aug hN hi hx hfn iop_add (up_I0 fun _ _ _ => rfl) mono_fI h
theorem aug_sub {i : Nat} {x : Str} {pos' : Pos} (hN : X.N.Nodup) (hi : X.N[i]? = some x) (hx : Loc X.env.scope x) (hfn : X.fn x = true ∨ X.env.scope.names.lookup x = some .local) (h : QE X cl W a A) :
    QS X cl W (.AugAssign (.Name x pos') .Sub a pos) (sAug i A (fI CT fun i j => .int (i - j))) := qs_aug hN hi hx hfn iop_sub (up_I0 fun _ _ _ => rfl) mono_fI h
/-- o[i] = e of a list -/
def fSet (o i v : D) (m : Mp) (k : Mp → Prop) : Prop := (∃ q l n j, o = .ref q ∧ i = .int n ∧ m q = some (.lst l) ∧ ixN l.length n = some j ∧ k (mset m q (.lst (l.set j v)))) ∨
  ∃ q kvs y, o = .ref q ∧ i = keyD y ∧ m q = some (.dK kvs) ∧ kvs.length < sizeLine ∧ k (mset m q (.dK (putD kvs y v)))
theorem pset_or {t t' : TSet} (h : PSet X t) (h' : PSet X t') : PSet X (fun o i v H Q => t o i v H Q ∨ t' o i v H Q) := by
  intro pins s σ H o i v ov iv u Q I ro ri rv q
  rcases q with q | q
  · exact h pins s σ H o i v ov iv u Q I ro ri rv q
  · exact h' pins s σ H o i v ov iv u Q I ro ri rv q
def sSub (O I V : TE3) : TS3 := fun D s m => V s m (fun v m1 => O s m1 (fun o m2 => I s m2 (fun i m3 => fSet o i v m3 (D.nx s)) (D.ex s)) (D.ex s)) (D.ex s)
theorem ix_lt {n : Nat} {i : Int} {j : Nat} (h : ixN n i = some j) : j < n := (ixN_seq h).2.1
theorem qs_sub {O I : TE3} {tpos : Pos} (hu : X.A.units + 64 < cLine) (hv : QE X cl W a A) (ho : QE X cl W b O) (hi : QE X cl W c I)
    (ha : ∀ v, assign (.Subscript b c tpos) X.env v = (do
      let ov ← holding [v] (eval b X.env)
      let iv ← holding [v, ov] (eval c X.env)
      standAt tpos
      holding [v, ov, iv] (setItem ov iv v)
      release [v, ov, iv] []))
    (hs : swapsWithSole [.Subscript b c tpos] a pos.line X.env = pure false) (hw : swappedStores [.Subscript b c tpos] a X.env = pure none) (h1 : (assignEach [.Subscript b c tpos] X.env).map (·.2) = [assign (.Subscript b c tpos) X.env]) :
    QS X cl W (.Assign [.Subscript b c tpos] a pos) (sSub O I A) := by
  refine ⟨fun s m D D' l q => hv.mono _ _ _ _ _ _ (fun v m1 z => ho.mono _ _ _ _ _ _ (fun o m2 y => hi.mono _ _ _ _ _ _ (fun i m3 z => by
      rcases z with ⟨p, ls, n, j, e1, e2, e3, e4, w⟩ | ⟨p, ls, n, e1, e2, e3, e4, w⟩
      · exact .inl ⟨p, ls, n, j, e1, e2, e3, e4, l.nx _ _ w⟩
      · exact .inr ⟨p, ls, n, e1, e2, e3, e4, l.nx _ _ w⟩) (fun _ _ z => l.ex _ _ _ z) y) (fun _ _ z => l.ex _ _ _ z) z) (fun _ _ z => l.ex _ _ _ z) q, ?_⟩
  refine PS.imp (ps_asg hv.run (pg_sub ho.run hi.run (pset_or set_list (set_dict (by omega))) ha) hs hw h1) fun D σ H ⟨s, m, hs, hm, q⟩ => ?_
  refine ⟨s, m, hs, hm, hv.mono _ _ _ _ _ _ (fun v m1 z x H1 rx hm1 e1 => ?_) (fun _ _ z => ex_cX hs z) q⟩
  refine ⟨s, m1, hs.mono e1, hm1, ho.mono _ _ _ _ _ _ (fun o m2 y xo H2 ro hm2 e2 => ?_) (fun _ _ z => cX_ext e1 (ex_cX hs z)) z⟩
  refine ⟨s, m2, hs.mono (e1.trans e2), hm2, hi.mono _ _ _ _ _ _ (fun i m3 w xi H3 ri hm3 e3 => ?_) (fun _ _ z => cX_ext (e1.trans e2) (ex_cX hs z)) y⟩
  rcases w with ⟨q, ls, n, j, rfl, rfl, e4, e5, w⟩ | ⟨q, kvs, n, rfl, rfl, e4, e5, w⟩
  · have ro' : xo = .ref q := ro
    have ri' : xi = .int n := ri
    obtain ⟨vs, q1, q2⟩ := hm3.1 q _ e4
    refine .inl ⟨q, vs, n, j, ro', ri', q1, by rw [← q2.length]; exact e5, ?_⟩
    have ex := ext_lst (u := .lst (vs.set j x)) q1
    exact w σ _ (hs.mono (((e1.trans e2).trans e3).trans ex)) (put_lst hm3 q1 (q2.set (rx.mono (e2.trans e3)) j)) (((e1.trans e2).trans e3).trans ex)
  · have ro' : xo = .ref q := ro
    have ri' := rep_key ri
    subst ri'
    obtain ⟨vs, q1, q2⟩ := hm3.1 q _ e4
    have ex := ext_dK (u := .dK (putK vs n x)) q1
    refine .inr ⟨q, _, ro', DPut.k q1 (by rw [← q2.length]; exact e5), ?_⟩
    exact w σ _ (hs.mono (((e1.trans e2).trans e3).trans ex)) (hm3.put ex ⟨_, upd_same, (q2.put (rx.mono (e2.trans e3))).mono ex⟩) (((e1.trans e2).trans e3).trans ex)

/-! ### loops -/
def sWhl (t : TT3) (u : TS3) : TS3 := fun D s m => ∃ P : Nat → S3 → Mp → Prop, (∃ n, P n s m) ∧ ∀ n s m, P n s m → t s m (fun b m1 => if b = true then u { D with nx := fun s' m' => ∃ n', n' < n ∧ P n' s' m', ct := fun s' m' => ∃ n', n' < n ∧ P n' s' m', bk := D.nx } s m1 else D.nx s m1) (D.ex s)
theorem qs_whl {t : TT3} (hp : PassesOwn (model X.prog X.w) X.A X.env X.xe) (ht : QT X cl W c t) (h : QB X cl W sts S) : QS X cl W (.While c sts [] pos) (sWhl t S) := by
  refine ⟨fun s m D D' l ⟨P, h0, hs⟩ => ⟨P, h0, fun n s m q => ht.mono _ _ _ _ _ _ (fun b m1 z => ?_) (fun _ _ z => l.ex _ _ _ z) (hs n s m q)⟩, ?_⟩
  · cases b with
    | true => exact h.mono.to z ⟨fun _ _ w => w, l.rt, l.nx, fun _ _ w => w, l.ex⟩
    | false => exact l.nx _ _ z
  · refine PS.imp (ps_while hp ht.run h.run) fun D σ H ⟨s, m, hs, hm, P, ⟨n0, h0⟩, q⟩ => ?_
    refine ⟨fun n σ' H' => ∃ s m, RepS X.K H' s σ' ∧ Ab X.K cl H' m ∧ Ext H H' ∧ P n s m, ⟨n0, s, m, hs, hm, Ext.refl H, h0⟩, ?_⟩
    rintro n σ1 H1 ⟨s1, m1, hs1, hm1, e1, p1⟩
    refine ⟨s1, m1, hs1, hm1, ht.mono _ _ _ _ _ _ (fun b m2 z H2 hm2 e2 => ?_) (fun _ _ z => ex_cX hs1 ((cN_ext e1).ex _ _ _ z)) (q n s1 m1 p1)⟩
    cases b with
    | true =>
      refine ⟨fun σ' H' => ∃ s m, RepS X.K H' s σ' ∧ Ab X.K cl H' m ∧ Ext H H' ∧ ∃ n', n' < n ∧ P n' s m, fun σ' H' ⟨s', m', a1, a2, a3, n', a4, a5⟩ => ⟨n', a4, s', m', a1, a2, a3, a5⟩, s1, m2, hs1.mono e2, hm2, ?_⟩
      have e12 := e1.trans e2
      exact h.mono.to z ⟨fun s' m' w σ' H' a1 a2 a3 => ⟨s', m', a1, a2, e12.trans a3, w⟩, fun _ _ w => cE_ext e12 w, fun _ _ w => cS_ext e12 w, fun s' m' w σ' H' a1 a2 a3 => ⟨s', m', a1, a2, e12.trans a3, w⟩,
        fun _ _ _ w => (cN_ext e12).ex _ _ _ w⟩
    | false => exact z σ1 H2 (hs1.mono e2) hm2 (e1.trans e2)
def sFor (it : TI3) (g : TG3) (u : TS3) : TS3 := fun D s m => it s m (fun l R m1 => ∃ P : Nat → S3 → Mp → Prop, P 0 s m1 ∧ (∀ i s m, i ≤ l.length → P i s m → R m) ∧
  (∀ i d s m, l[i]? = some d → P i s m → g d s m (fun s2 m2 => u { D with nx := P (i + 1), ct := P (i + 1), bk := D.nx } s2 m2)) ∧ ∀ s m, P l.length s m → D.nx s m) (D.ex s)
theorem qs_for {it : TI3} {g : TG3} (hp : PassesOwn (model X.prog X.w) X.A X.env X.xe) (hc : X.calm = true) (hi : QI X cl W tg a it) (hg : QG X cl tg g) (h : QB X cl W sts S)
    (hs : ∀ x, foldedSetIterable a X.env x = pure x) : QS X cl W (.For tg a sts [] pos) (sFor it g S) := by
  refine ⟨fun s m D D' l q => hi.mono _ _ _ _ _ _ (fun ls R m1 ⟨P, h0, h1, h2, h3⟩ => ⟨P, h0, h1, fun i d s m e p => hg.mono.to (h2 i d s m e p) (fun s2 m2 w => h.mono.to w ⟨fun _ _ w => w, l.rt, l.nx, fun _ _ w => w, l.ex⟩), fun s m p => l.nx _ _ (h3 s m p)⟩) (fun _ _ z => l.ex _ _ _ z) q, ?_⟩
  refine PS.imp (ps_for hp hc hi.run hg.run h.run hs) fun D σ H ⟨s, m, hs, hm, q⟩ => ?_
  refine ⟨s, m, hs, hm, hi.mono _ _ _ _ _ _ (fun ls R m1 ⟨P, h0, h1, h2, h3⟩ J H1 w hm1 e1 => ?_) (fun _ _ z => ex_cX hs z) q⟩
  refine ⟨fun i n σ' H' => n = ls.length - i ∧ i ≤ ls.length ∧ ∃ s m, RepS X.K H' s σ' ∧ Ab X.K cl H' m ∧ Ext H1 H' ∧ P i s m, ⟨ls.length, by simp, Nat.zero_le _, s, m1, hs.mono e1, hm1, Ext.refl H1, h0⟩, ?_⟩
  rintro i n σ2 H2 ⟨rfl, hle, s2, m2, hs2, hm2, e2, p2⟩
  obtain ⟨w1, w2⟩ := w i H2 m2 e2 hm2 (h1 i s2 m2 hle p2) hle
  by_cases hlt : i < ls.length
  · obtain ⟨w3, w4⟩ := w2 ls[i] (by simp [hlt])
    refine .inr ⟨w3, fun σ' H' => ∃ s m, RepS X.K H' s σ' ∧ Ab X.K cl H' m ∧ Ext H1 H' ∧ P (i + 1) s m, fun σ' H' ⟨s', m', a1, a2, a3, a4⟩ => ⟨ls.length - (i + 1), by omega, rfl, hlt, s', m', a1, a2, a3, a4⟩, fun x H' y => ?_⟩
    obtain ⟨r5, hm5, e5⟩ := w4 x H' y
    refine ⟨ls[i], s2, m2, r5, hs2.mono e5, hm5, hg.mono _ _ _ _ _ (fun s6 m6 z σ6 H6 hs6 hm6 e6 => ?_) (h2 i ls[i] s2 m2 (by simp [hlt]) p2)⟩
    have e26 := (e2.trans e5).trans e6
    have e16 := e1.trans e26
    exact ⟨s6, m6, hs6, hm6, h.mono.to z ⟨fun s' m' w σ' H' a1 a2 a3 => ⟨s', m', a1, a2, e26.trans a3, w⟩, fun _ _ w => cE_ext e16 w, fun _ _ w => cS_ext e16 w, fun s' m' w σ' H' a1 a2 a3 => ⟨s', m', a1, a2, e26.trans a3, w⟩,
      fun _ _ _ w => (cN_ext e16).ex _ _ _ w⟩⟩
  · have e : i = ls.length := by omega
    subst e
    exact .inl ⟨w1 rfl, h3 s2 m2 p2 σ2 H2 hs2 hm2 (e1.trans e2)⟩

/-! ### a def -/
def start3 (N : List Str) (ds : List D) : S3 := ds.map some ++ List.replicate (N.length - ds.length) none
theorem start_up {K : PySem.W.Frag} {H : Hp} {N : List Str} {ds : List D} {vs : List V} (r : Reps K H ds vs) : RepS K H (start3 N ds) (L2.start N vs) := by
  have hl := r.length
  refine ⟨by unfold start3 L2.start; simp [hl], fun i d e => ?_⟩
  unfold start3 at e
  unfold L2.start
  by_cases h : i < ds.length
  · rw [List.getElem?_append_left (by simpa using h), List.getElem?_map] at e
    cases q : ds[i]? with
    | none => rw [q] at e; cases e
    | some d' =>
      rw [q] at e
      cases e
      obtain ⟨v, h1, h2⟩ := r.get q
      exact ⟨v, by rw [List.getElem?_append_left (by simpa [← hl] using h), List.getElem?_map, h1]; rfl, h2⟩
  · rw [List.getElem?_append_right (by simpa using Nat.le_of_not_lt h)] at e
    obtain ⟨h1, h2⟩ := List.getElem?_eq_some_iff.mp e
    rw [List.getElem_replicate] at h2
    cases h2
def UpK (k : K3) : Prop := ∀ d m m', Le m m' → k d m → k d m'
def UpX (k : X3) : Prop := ∀ d m m', Le m m' → k d m → k d m'
/-- the body keeps the promise; L: the level -/
def BodyOk (t : Nat → TS3) (N : List Str) (S : FSpec) (n : Nat) : Prop := ∀ (L : Nat) (al : S.al) (ds : List D) (m : Mp) (k : K3) (x : X3), S.lev al ≤ L → UpK k → UpX x → S.pre al ds m → (∀ d m', S.post al m d m' → k d m') → (∀ e m', S.exc al m e m' → x e m') →
  t L { nx := fun _ m' => k .non m', rt := k, ex := fun _ => x } (start3 N ds) m
theorem def_ok {P : Program} {w : World} {K : PySem.W.Frag} {mg : Str → Option Value} {base : Heap} {x qual : Str} {st : Stmt} {f : Addr} {fd : FuncData} {N ps : List Str} {k : Nat} {sp : FSpec} {t : Nat → TS3}
    (F : Fun K x qual st f fd) (S : FnScope N ps (defScope st)) (len : ∀ al ds m, sp.pre al ds m → ds.length = ps.length) (bo : BodyOk t N sp ps.length)
    (hq : ∀ (cdv : Value) (A : Around) (outer : List Env) (s : Shared) (H : Hp) (E : XK), Room k (A.deeper (envOfC qual (defScope st) s.heap.objs.size f cdv)) →
      QB (cxOf (L2.CX P w) P w K mg base N qual (defScope st) f cdv A outer s H E) cl (fun c d _ H => E c d H) (defBody st) (t k)) :
    FnOk P w K mg base (L2.CX P w) (k + 1) f fd ps (liftSp K cl sp (k + 1)) := by
  refine F.okX S (fun vs H Q E ⟨ds, m, al, r, _, _, hp, _⟩ => by rw [← r.length]; exact len al ds m hp) (fun cdv A outer s H vs Q E hr h => ?_)
  obtain ⟨ds, m, al, r, hm, hl, hp, hk, hx⟩ := h
  refine ⟨_, (hq cdv A outer s H E hr).run, start3 N ds, m, start_up r, hm, ?_⟩
  refine (hq cdv A outer s H E hr).mono.to (bo k al ds m (cE K cl H Q) (fun x m' => ∀ c dd H', RepX K cl H' x c dd → Ab K cl H' m' → Ext H H' → E c dd H') (Nat.le_of_lt_succ hl) (fun d m m' l z => cE_le l z) (fun d m m' l z c dd H' a b e => z c dd H' a (b.le l) e) hp hk hx) ?_
  exact ⟨fun s' m' z σ' H' hs' hm' e => z _ H' rfl hm' e, fun _ _ z => z, fun _ _ z => z.elim, fun _ _ z => z.elim, fun s' y m' z σ' c dd H' _ a b e => z c dd H' a b e⟩
end
end PV

/-! Methods of built-in classes; comprehensions. -/
namespace PV
open PySem L2 PyProof.Rows
section
variable {X : Cx} {cl : Cl} {W : WX} {a b c e tg o : Expr} {A B C : TE3} {rest es : List Expr} {R : TA3} {pos p apos cpos : Pos} {st : Stmt} {sts sts' : List Stmt} {S S' : TS3}

/-- o.m(..) of a value of the built-in class T -/
def tyD (T : String) (o : D) (m : Mp) : Prop := (T = "str" ∧ ∃ z, o = .str z) ∨ (T = "list" ∧ ∃ q l, o = .ref q ∧ RL m q l) ∨ (T = "dict" ∧ ∃ q, o = .ref q ∧ ((∃ kvs, m q = some (.dK kvs)) ∨ ∃ kvs, m q = some (.dT kvs)))
def eMt (T : String) (f : D → List D → Mp → K3 → Prop) (O : TE3) (R : TA3) : TE3 := fun s m k x => O s m (fun o m1 => tyD T o m1 ∧ R s m1 (fun ds m2 => f o ds m2 k) x) x
def eMt0 (T : String) (f : D → List D → Mp → K3 → Prop) (O : TE3) : TE3 := fun s m k x => O s m (fun o m1 => tyD T o m1 ∧ f o [] m1 k) x
def MonoM (f : D → List D → Mp → K3 → Prop) : Prop := ∀ o ds m k k', (∀ d m, k d m → k' d m) → f o ds m k → f o ds m k'
def UpM (X : Cx) (cl : Cl) (f : D → List D → Mp → K3 → Prop) (r : V → List V → Hp → VK → Prop) : Prop :=
  ∀ (H : Hp) (m : Mp) (o : D) (v : V) (ds : List D) (vs : List V) (Q : VK), Rep X.K H o v → Reps X.K H ds vs → Ab X.K cl H m → f o ds m (cE X.K cl H Q) → r v vs H Q
theorem tyD.up {T : String} {d : D} {m : Mp} {H : Hp} {v : V} (h : tyD T d m) (r : Rep X.K H d v) (hm : Ab X.K cl H m) : tyV X.K T v H := by
  rcases h with ⟨rfl, z, rfl⟩ | ⟨rfl, q, l, rfl, h⟩ | ⟨rfl, q, rfl, h⟩
  · have r' : v = .str z := r
    subst r'
    rfl
  · have r' : v = .ref q := r
    subst r'
    obtain ⟨vs, h1, _⟩ := hm.rl h
    exact .inl ⟨rfl, vs, h1⟩
  · have r' : v = .ref q := r
    subst r'
    rcases h with ⟨kvs, h⟩ | ⟨kvs, h⟩
    · obtain ⟨ws, h1, _⟩ := hm.1 q _ h
      exact .inr (.inr (.inl ⟨rfl, .inl ⟨ws, h1⟩⟩))
    · obtain ⟨ws, h1, _⟩ := hm.1 q _ h
      exact .inr (.inr (.inl ⟨rfl, .inr ⟨ws, h1⟩⟩))
theorem q_mt {T id : String} {name : Str} {f : D → List D → Mp → K3 → Prop} {r : V → List V → Hp → VK → Prop} (pa : PlainAttrs T) (slot : Slot T name id) (hty : typeOf (.builtin id) = pure (.type "method_descriptor")) (hm : MtR X id r) (u : UpM X cl f r) (mf : MonoM f)
    (ho : QE X cl W o A) (ha : QA X cl W (e :: es) R) (hbase : attributeBase o name X.env (eval o X.env) = eval o X.env)
    (hfew : ((backTo cpos (starEach (e :: es) X.env)).all (fun x => !x.1) && (backToKw cpos (keywordEach [] X.env)).all (fun x => x.1.isSome)
      && decide ((e :: es).length + ([] : List Keyword).length + (if ([] : List Keyword).isEmpty then 0 else 1) < 30)) = true)
    (hline : (apos.endLine == cpos.line) = true) (hs : starEach (e :: es) X.env = (false, eval e X.env) :: starEach es X.env) (hplain : (backTo cpos (starEach es X.env)).any (·.1) = false) :
    QE X cl W (.Call (.Attribute o name apos) (e :: es) [] cpos) (eMt T f A R) :=
  ⟨fun s m k k' x x' hk hx q => ho.mono _ _ _ _ _ _ (fun d m1 ⟨z, y⟩ => ⟨z, ha.mono _ _ _ _ _ _ (fun ds m2 w => mf _ _ _ _ _ hk w) hx y⟩) hx q,
   PE.imp (pe_bm pa slot hty hm ho.run ha.run hbase hfew hline hs hplain) fun σ H Q ⟨s, m, hs, hm, q⟩ => ⟨s, m, hs, hm, ho.mono _ _ _ _ _ _ (fun d m1 ⟨z, y⟩ v H1 r1 hm1 e1 =>
    ⟨z.up r1 hm1, s, m1, hs.mono e1, hm1, ha.mono _ _ _ _ _ _ (fun ds m2 w vs H2 r2 hm2 e2 => u H2 m2 d v ds vs Q (r1.mono e2) r2 hm2 (mf _ _ _ _ _ (fun _ _ y => cE_ext (e1.trans e2) y) w)) (fun _ _ z => cX_ext e1 z) y⟩) (fun _ _ z => z) q⟩⟩
theorem q_mt0 {T id : String} {name : Str} {f : D → List D → Mp → K3 → Prop} {r : V → List V → Hp → VK → Prop} (pa : PlainAttrs T) (slot : Slot T name id) (hty : typeOf (.builtin id) = pure (.type "method_descriptor")) (hm : MtR X id r) (u : UpM X cl f r) (mf : MonoM f)
    (ho : QE X cl W o A) (hbase : attributeBase o name X.env (eval o X.env) = eval o X.env) (hline : (apos.endLine == cpos.line) = true) : QE X cl W (.Call (.Attribute o name apos) [] [] cpos) (eMt0 T f A) :=
  ⟨fun s m k k' x x' hk hx q => ho.mono _ _ _ _ _ _ (fun d m1 ⟨z, y⟩ => ⟨z, mf _ _ _ _ _ hk y⟩) hx q,
   PE.imp (pe_bm0 pa slot hty hm ho.run hbase hline) fun σ H Q ⟨s, m, hs, hm, q⟩ => ⟨s, m, hs, hm, ho.mono _ _ _ _ _ _ (fun d m1 ⟨z, y⟩ v H1 r1 hm1 e1 =>
    ⟨z.up r1 hm1, u H1 m1 d v [] [] Q r1 rfl hm1 (mf _ _ _ _ _ (fun _ _ y => cE_ext e1 y) y)⟩) (fun _ _ z => z) q⟩⟩
def fAppend (o : D) (ds : List D) (m : Mp) (k : K3) : Prop := ∃ q l y, o = .ref q ∧ ds = [y] ∧ m q = some (.lst l) ∧ l.length < sizeLine ∧ k .non (mset m q (.lst (l ++ [y])))
theorem up_append : UpM X cl fAppend rAppend := fun H m o v ds vs Q r1 r2 hm ⟨q, l, y, e1, e2, h1, h2, h3⟩ => by
  subst e1 e2
  have r' : v = .ref q := r1
  subst r'
  obtain ⟨w, rfl, rw⟩ := reps1 r2
  obtain ⟨us, q1, q2⟩ := hm.1 q _ h1
  exact ⟨q, us, w, rfl, rfl, q1, by rw [← q2.length]; exact h2, h3 _ _ rfl (put_lst hm q1 (q2.append (Reps.one rw))) (ext_lst q1)⟩
theorem mono_append : MonoM fAppend := fun o ds m k k' hk ⟨q, l, y, e1, e2, h1, h2, h3⟩ => ⟨q, l, y, e1, e2, h1, h2, hk _ _ h3⟩
def fExtend (o : D) (ds : List D) (m : Mp) (k : K3) : Prop := ∃ q q' l r, o = .ref q ∧ ds = [.ref q'] ∧ m q = some (.lst l) ∧ m q' = some (.lst r) ∧ l.length + r.length ≤ sizeLine ∧ k .non (mset m q (.lst (l ++ r)))
theorem up_extend : UpM X cl fExtend rExtend := fun H m o v ds vs Q r1 r2 hm ⟨q, q', l, r, e1, e2, h1, h2, h3, h4⟩ => by
  subst e1 e2
  have r' : v = .ref q := r1
  subst r'
  obtain ⟨w, rfl, rw⟩ := reps1 r2
  have rw' : w = .ref q' := rw
  subst rw'
  obtain ⟨us, q1, q2⟩ := hm.1 q _ h1
  obtain ⟨ws, q3, q4⟩ := hm.1 q' _ h2
  exact ⟨q, q', us, ws, rfl, rfl, q1, q3, by rw [← q2.length, ← q4.length]; exact h3, h4 _ _ rfl (put_lst hm q1 (q2.append q4)) (ext_lst q1)⟩
theorem mono_extend : MonoM fExtend := fun o ds m k k' hk ⟨q, q', l, r, e1, e2, h1, h2, h3, h4⟩ => ⟨q, q', l, r, e1, e2, h1, h2, h3, hk _ _ h4⟩
def fPop (o : D) (ds : List D) (m : Mp) (k : K3) : Prop := ∃ q l y, o = .ref q ∧ ds = [] ∧ m q = some (.lst l) ∧ l[l.length - 1]? = some y ∧ k y (mset m q (.lst l.dropLast))
theorem up_pop : UpM X cl fPop rPop := fun H m o v ds vs Q r1 r2 hm ⟨q, l, y, e1, e2, h1, h2, h3⟩ => by
  subst e1 e2
  have r' : v = .ref q := r1
  subst r'
  cases r2
  obtain ⟨us, q1, q2⟩ := hm.1 q _ h1
  obtain ⟨u, e3, r3⟩ := q2.get h2
  exact ⟨q, us, u, rfl, rfl, q1, by rw [← q2.length]; exact e3, h3 _ _ (r3.mono (ext_lst q1)) (put_lst hm q1 q2.dropLast) (ext_lst q1)⟩
theorem mono_pop : MonoM fPop := fun o ds m k k' hk ⟨q, l, y, e1, e2, h1, h2, h3⟩ => ⟨q, l, y, e1, e2, h1, h2, hk _ _ h3⟩
def fJoin (o : D) (ds : List D) (m : Mp) (k : K3) : Prop := ∃ (z : Str) (ys : List Str), o = .str z ∧ ((∃ q, ds = [.ref q] ∧ RL m q (ys.map D.str)) ∨ ds = [.tup (ys.map D.str)]) ∧ (ys.map (·.length)).sum + ys.length * z.length ≤ 16777216 ∧ k (.str (Txt.join z ys)) m
theorem up_join : UpM X cl fJoin (fun x xs H Q => ∃ a p, ∃ ys : List Str, x = .str a ∧ xs = [.ref p] ∧ (SqL X.K H p (ys.map V.str) ∨ SqT X.K H p (ys.map V.str)) ∧ (ys.map (·.length)).sum + ys.length * a.length ≤ 16777216 ∧ Q (.str (Txt.join a ys)) H) :=
  fun H m o v ds vs Q r1 r2 hm ⟨z, ys, e1, e2, h1, h2⟩ => by
  subst e1
  have r' : v = .str z := r1
  subst r'
  rcases e2 with ⟨q, e2, h3⟩ | e2
  · subst e2
    obtain ⟨w, rfl, rw⟩ := reps1 r2
    have rw' : w = .ref q := rw
    subst rw'
    obtain ⟨us, q1, q2⟩ := hm.rl h3
    have e := q2.strs
    subst e
    exact ⟨z, q, ys, rfl, rfl, .inl q1, h1, h2 _ _ rfl hm (Ext.refl H)⟩
  · subst e2
    obtain ⟨w, rfl, q, us, rfl, q1, q2⟩ := reps1 r2
    have e := q2.strs
    subst e
    exact ⟨z, q, ys, rfl, rfl, .inr q1, h1, h2 _ _ rfl hm (Ext.refl H)⟩
theorem mono_join : MonoM fJoin := fun o ds m k k' hk ⟨z, ys, e1, e2, h1, h2⟩ => ⟨z, ys, e1, e2, h1, hk _ _ h2⟩

/-! ### comprehensions -/
def noX : X3 := fun _ _ => False
def cTest (t : TT3) (s : S3) (m : Mp) (k : Bool → Mp → Prop) : Prop := t s m k noX
/-- [elt for x in it if t], x in slot i -/
def eLc (it : TI3) (i : Nat) (t : TT3) (B : TE3) : TE3 := fun s m k x => it s m (fun l R m1 => ∀ q, m1 q = none → ∃ P : Nat → Mp → Prop, P 0 (mset m1 q (.lst [])) ∧ (∀ j m, j ≤ l.length → P j m → R m) ∧
  (∀ j d m, l[j]? = some d → P j m → t (s.set i (some d)) m (fun b m3 => if b = true then B (s.set i (some d)) m3 (fun y m4 => ∃ acc, m4 q = some (.lst acc) ∧ acc.length < sizeLine ∧ P (j + 1) (mset m4 q (.lst (acc ++ [y])))) noX else P (j + 1) m3) noX) ∧
  ∀ m, P l.length m → k (.ref q) m) x
/-- .. for x, y in it, in slots i and j -/
def eLc2 (it : TI3) (i i' : Nat) (t : TT3) (B : TE3) : TE3 := fun s m k x => it s m (fun l R m1 => ∀ q, m1 q = none → ∃ P : Nat → Mp → Prop, P 0 (mset m1 q (.lst [])) ∧ (∀ j m, j ≤ l.length → P j m → R m) ∧
  (∀ j d m, l[j]? = some d → P j m → ∃ u v, d = .tup [u, v] ∧ t ((s.set i (some u)).set i' (some v)) m (fun b m3 => if b = true then B ((s.set i (some u)).set i' (some v)) m3 (fun y m4 => ∃ acc, m4 q = some (.lst acc) ∧ acc.length < sizeLine ∧ P (j + 1) (mset m4 q (.lst (acc ++ [y])))) noX else P (j + 1) m3) noX) ∧
  ∀ m, P l.length m → k (.ref q) m) x
def tYes3 : TT3 := fun _ m k _ => k true m
structure QTs (X : Cx) (cl : Cl) (W : WX) (es : List Expr) (T : TT3) : Prop where
  mono : MonoT T
  run : PTs X es (upT X.K cl W T)
theorem PTs.imp {t t' : TT} (h : PTs X es t) (i : ∀ σ H Q, t' σ H Q → t σ H Q) : PTs X es t' := ⟨fun pins s σ H Q I q => h.run pins s σ H Q I (i σ H Q q)⟩
theorem qts_nil : QTs X cl W [] tYes3 := ⟨fun s m k k' x x' hk hx h => hk _ _ h, PTs.imp pts_nil fun σ H Q ⟨s, m, hs, hm, q⟩ => q H hm (Ext.refl H)⟩
theorem qts_one {T : TT3} (h : QT X cl W e T) : QTs X cl W [e] T := ⟨h.mono, pts_one h.run⟩
abbrev W0 : WX := fun _ _ _ _ => False
theorem mono_lc {it : TI3} {i : Nat} {t : TT3} (hi : MonoI it) (ht : MonoT t) (hb : MonoE B) : MonoE (eLc it i t B) := fun s m k k' x x' hk hx q =>
  hi _ _ _ _ _ _ (fun l R m1 z p hp => let ⟨P, h0, h1, h2, h3⟩ := z p hp; ⟨P, h0, h1, h2, fun m y => hk _ _ (h3 m y)⟩) hx q
theorem mono_lc2 {it : TI3} {i i' : Nat} {t : TT3} (hi : MonoI it) (ht : MonoT t) (hb : MonoE B) : MonoE (eLc2 it i i' t B) := fun s m k k' x x' hk hx q =>
  hi _ _ _ _ _ _ (fun l R m1 z p hp => let ⟨P, h0, h1, h2, h3⟩ := z p hp; ⟨P, h0, h1, h2, fun m y => hk _ _ (h3 m y)⟩) hx q
theorem cX0 {K : PySem.W.Frag} {H : Hp} {σ : L2.St} : ∀ e m, noX e m → cX K cl W0 H σ e m := fun _ _ h => h.elim
theorem RepS.wipe1 {K : PySem.W.Frag} {H : Hp} {s : S3} {σ : L2.St} {d : D} {v : V} (h : RepS K H s σ) (r : Rep K H d v) (i : Nat) : RepS K H (s.set i (some d)) ((σ.set i none).set i (some v)) := by
  rw [List.set_set]
  exact h.set r i
theorem lc_up {it : TI3} {i : Nat} {t : TT3} (hi : MonoI it) (ht : MonoT t) (hb : MonoE B) (σ : L2.St) (H : Hp) (Q : VK) (h : upE X.K cl W (eLc it i t B) σ H Q) :
    tLc (upI X.K cl W it) (gName i) (upT X.K cl W0 t) (upE X.K cl W0 B) [i] σ H Q := by
  obtain ⟨s, m, hs, hm, h⟩ := h
  refine ⟨s, m, hs, hm, hi _ _ _ _ _ _ (fun l R m1 z J H1 w hm1 e1 p hp => ?_) (fun _ _ z => z) h⟩
  obtain ⟨P, h0, h1, h2, h3⟩ := z p (hm1.free hp)
  have e2 := Ext.new (o := .lst []) hp
  refine ⟨fun j n H' => n = l.length - j ∧ j ≤ l.length ∧ ∃ m, Ab X.K cl H' m ∧ Ext H1 H' ∧ P j m, ⟨l.length, by simp, Nat.zero_le _, _, new_lst hm1 hp (l := []) rfl, e2, h0⟩, ?_⟩
  rintro j n H3 ⟨rfl, hle, m3, hm3, e3, p3⟩
  obtain ⟨w1, w2⟩ := w j H3 m3 e3 hm3 (h1 j m3 hle p3) hle
  by_cases hlt : j < l.length
  · obtain ⟨w3, w4⟩ := w2 l[j] (by simp [hlt])
    refine .inr ⟨w3, fun H' => ∃ m, Ab X.K cl H' m ∧ Ext H1 H' ∧ P (j + 1) m, fun H' ⟨m', a1, a2, a3⟩ => ⟨l.length - (j + 1), by omega, rfl, hlt, m', a1, a2, a3⟩, fun x H' y => ?_⟩
    obtain ⟨r5, hm5, e5⟩ := w4 x H' y
    have e15 := e3.trans e5
    have hs5 := hs.mono (e1.trans e15)
    show wipe (((wipe σ [i])).set i (some x)) [i] = wipe σ [i] ∧ _
    refine ⟨by simp only [wipe, List.set_set], ?_⟩
    refine ⟨s.set i (some l[j]), m3, by simp only [wipe]; exact hs5.wipe1 r5 i, hm5, ht _ _ _ _ _ _ (fun b m6 z6 H6 hm6 e6 => ?_) cX0 (h2 j l[j] m3 (by simp [hlt]) p3)⟩
    cases b with
    | false => exact ⟨m6, hm6, e15.trans e6, z6⟩
    | true =>
      refine ⟨s.set i (some l[j]), m6, by simp only [wipe]; exact (hs5.wipe1 r5 i).mono e6, hm6, hb _ _ _ _ _ _ (fun d m7 z7 y7 H7 r7 hm7 e7 => ?_) cX0 z6⟩
      obtain ⟨acc, q1, q2, q3⟩ := z7
      obtain ⟨vs, q4, q5⟩ := hm7.1 p _ q1
      exact ⟨vs, q4, by rw [← q5.length]; exact q2, _, put_lst hm7 q4 (q5.append (Reps.one r7)), ((e15.trans e6).trans e7).trans (ext_lst q4), q3⟩
  · have e : j = l.length := by omega
    subst e
    exact .inl ⟨w1 rfl, h3 m3 p3 _ H3 rfl hm3 (e1.trans e3)⟩
theorem lc2_up {it : TI3} {i i' : Nat} {t : TT3} (hne : i ≠ i') (hi : MonoI it) (ht : MonoT t) (hb : MonoE B) (σ : L2.St) (H : Hp) (Q : VK) (h : upE X.K cl W (eLc2 it i i' t B) σ H Q) :
    tLc (upI X.K cl W it) (gTup X.K 2 (gCons (gName i) (gCons (gName i') gNil))) (upT X.K cl W0 t) (upE X.K cl W0 B) [i, i'] σ H Q := by
  obtain ⟨s, m, hs, hm, h⟩ := h
  refine ⟨s, m, hs, hm, hi _ _ _ _ _ _ (fun l R m1 z J H1 w hm1 e1 p hp => ?_) (fun _ _ z => z) h⟩
  obtain ⟨P, h0, h1, h2, h3⟩ := z p (hm1.free hp)
  have e2 := Ext.new (o := .lst []) hp
  refine ⟨fun j n H' => n = l.length - j ∧ j ≤ l.length ∧ ∃ m, Ab X.K cl H' m ∧ Ext H1 H' ∧ P j m, ⟨l.length, by simp, Nat.zero_le _, _, new_lst hm1 hp (l := []) rfl, e2, h0⟩, ?_⟩
  rintro j n H3 ⟨rfl, hle, m3, hm3, e3, p3⟩
  obtain ⟨w1, w2⟩ := w j H3 m3 e3 hm3 (h1 j m3 hle p3) hle
  by_cases hlt : j < l.length
  · obtain ⟨w3, w4⟩ := w2 l[j] (by simp [hlt])
    refine .inr ⟨w3, fun H' => ∃ m, Ab X.K cl H' m ∧ Ext H1 H' ∧ P (j + 1) m, fun H' ⟨m', a1, a2, a3⟩ => ⟨l.length - (j + 1), by omega, rfl, hlt, m', a1, a2, a3⟩, fun x H' y => ?_⟩
    obtain ⟨r5, hm5, e5⟩ := w4 x H' y
    have e15 := e3.trans e5
    have hs5 := hs.mono (e1.trans e15)
    obtain ⟨u, v, ed, h4⟩ := h2 j l[j] m3 (by simp [hlt]) p3
    rw [ed] at r5
    obtain ⟨q, us, rfl, q1, q2⟩ := r5
    obtain ⟨x1, x2, rfl, r1, r2⟩ := reps2 q2
    have hw : ∀ (x1 x2 : V), wipe (((wipe σ [i, i']).set i (some x1)).set i' (some x2)) [i, i'] = wipe σ [i, i'] := fun x1 x2 => by
      simp only [wipe, List.set_set]
      rw [List.set_comm _ _ hne]
      simp only [List.set_set]
    have hS : ∀ {H'}, Ext H' H' → RepS X.K H' s σ → Rep X.K H' u x1 → Rep X.K H' v x2 → RepS X.K H' ((s.set i (some u)).set i' (some v)) (((wipe σ [i, i']).set i (some x1)).set i' (some x2)) := fun {H'} _ a b c => by
      have : ((wipe σ [i, i']).set i (some x1)).set i' (some x2) = (σ.set i (some x1)).set i' (some x2) := by
        simp only [wipe, List.set_set]
        rw [List.set_comm (some x1) (some x2) hne]
        rw [List.set_comm (some x1) (some x2) hne]
        simp only [List.set_set]
      rw [this]
      exact (a.set b i).set c i'
    refine ⟨q, [x1, x2], rfl, q1, rfl, x1, [x2], rfl, x2, [], rfl, rfl, hw x1 x2, ?_⟩
    refine ⟨(s.set i (some u)).set i' (some v), m3, hS (Ext.refl _) hs5 r1 r2, hm5, ht _ _ _ _ _ _ (fun b m6 z6 H6 hm6 e6 => ?_) cX0 h4⟩
    cases b with
    | false => exact ⟨m6, hm6, e15.trans e6, z6⟩
    | true =>
      refine ⟨(s.set i (some u)).set i' (some v), m6, (hS (Ext.refl _) hs5 r1 r2).mono e6, hm6, hb _ _ _ _ _ _ (fun d m7 z7 y7 H7 r7 hm7 e7 => ?_) cX0 z6⟩
      obtain ⟨acc, q1, q2, q3⟩ := z7
      obtain ⟨vs, q4, q5⟩ := hm7.1 p _ q1
      exact ⟨vs, q4, by rw [← q5.length]; exact q2, _, put_lst hm7 q4 (q5.append (Reps.one r7)), ((e15.trans e6).trans e7).trans (ext_lst q4), q3⟩
  · have e : j = l.length := by omega
    subst e
    exact .inl ⟨w1 rfl, h3 m3 p3 _ H3 rfl hm3 (e1.trans e3)⟩
/-- the contexts of a comprehension's block -/
abbrev Blks (X : Cx) (scope : Scope) (f : Cx → Prop) : Prop := ∀ (s : Shared) (H : Hp) (C : Addr) (cz : List (Str × Addr)) (fp : List Addr), f (X.blk s H scope (compEnvC scope cz C X.env) fp)
variable {ifs : List Expr} {scope : Scope} {it : TI3} {t : TT3} {x x' : Str} {i i' j k : Nat} {p1 p2 p3 : Pos}
theorem q_lc (hc : X.calm = true) (hN : X.N.Nodup) (hi : QI X cl W (.Name x p1) a it) (ok : BlkOk X.N X.env.scope scope [(x, i)])
    (hg : Blks X scope fun Y => PG Y (.Name x p1) (gName i)) (ht : Blks X scope fun Y => QTs Y cl W0 ifs t) (hb : Blks X scope fun Y => QE Y cl W0 e B) (hs : ∀ z, foldedSetIterable a X.env z = pure z) :
    QE X cl W (.ListComp e [⟨.Name x p1, a, ifs, 0⟩] scope pos) (eLc it i t B) :=
  ⟨mono_lc hi.mono (ht X.s_0 X.H_0 0 [] []).mono (hb X.s_0 X.H_0 0 [] []).mono, PE.imp (pe_lc hc hN hi.run ok hg (fun s H C cz fp => (ht s H C cz fp).run) (fun s H C cz fp => (hb s H C cz fp).run) hs) (lc_up hi.mono (ht X.s_0 X.H_0 0 [] []).mono (hb X.s_0 X.H_0 0 [] []).mono)⟩
theorem q_lc2 (hne : i ≠ i') (hc : X.calm = true) (hN : X.N.Nodup) (hi : QI X cl W (.Tuple [.Name x p1, .Name x' p2] k p3) a it) (ok : BlkOk X.N X.env.scope scope [(x, i), (x', i')])
    (hg : Blks X scope fun Y => PG Y (.Tuple [.Name x p1, .Name x' p2] k p3) (gTup Y.K 2 (gCons (gName i) (gCons (gName i') gNil)))) (ht : Blks X scope fun Y => QTs Y cl W0 ifs t) (hb : Blks X scope fun Y => QE Y cl W0 e B) (hs : ∀ z, foldedSetIterable a X.env z = pure z) :
    QE X cl W (.ListComp e [⟨.Tuple [.Name x p1, .Name x' p2] k p3, a, ifs, 0⟩] scope pos) (eLc2 it i i' t B) :=
  ⟨mono_lc2 hi.mono (ht X.s_0 X.H_0 0 [] []).mono (hb X.s_0 X.H_0 0 [] []).mono, PE.imp (pe_lc hc hN hi.run ok hg (fun s H C cz fp => (ht s H C cz fp).run) (fun s H C cz fp => (hb s H C cz fp).run) hs) (lc2_up hne hi.mono (ht X.s_0 X.H_0 0 [] []).mono (hb X.s_0 X.H_0 0 [] []).mono)⟩
theorem PGn {Y : Cx} (hN : Y.N.Nodup) (hi : Y.N[i]? = some x) (hx : Loc Y.env.scope x) (hf : Y.fn x = true ∨ Y.env.scope.names.lookup x = some .local) : PG Y (.Name x p1) (gName i) := pg_name hN hi hx hf
/-- y = [..] on one line -/
theorem qs_lc {y : Str} {py spos : Pos} {n : Nat} (hc : X.calm = true) (hN : X.N.Nodup) (hy : X.N[n]? = some y) (hyl : X.env.scope.names.lookup y = some .local)
    (hsw : swapsWith (.ListComp e [⟨.Name x p1, a, ifs, 0⟩] scope pos) (some (.Name y py)) spos.line X.env = pure true) (hi : QI X cl W (.Name x p1) a it) (ok : BlkOk X.N X.env.scope scope [(x, i)])
    (hg : Blks X scope fun Y => PG Y (.Name x p1) (gName i)) (ht : Blks X scope fun Y => QTs Y cl W0 ifs t) (hb : Blks X scope fun Y => QE Y cl W0 e B) (hs : ∀ z, foldedSetIterable a X.env z = pure z) :
    QS X cl W (.Assign [.Name y py] (.ListComp e [⟨.Name x p1, a, ifs, 0⟩] scope pos) spos) (sAsg (eLc it i t B) (gNm n)) :=
  ⟨fun s m D D' l q => mono_lc hi.mono (ht X.s_0 X.H_0 0 [] []).mono (hb X.s_0 X.H_0 0 [] []).mono _ _ _ _ _ _ (fun _ _ z => l.nx _ _ z) (fun _ _ z => l.ex _ _ _ z) q,
   PS.imp (ps_setLc hc hN hy hyl hsw hi.run ok hg (fun s H C cz fp => (ht s H C cz fp).run) (fun s H C cz fp => (hb s H C cz fp).run) hs) fun D σ H ⟨s, m, hs, hm, q⟩ =>
    lc_up hi.mono (ht X.s_0 X.H_0 0 [] []).mono (hb X.s_0 X.H_0 0 [] []).mono σ H _ ⟨s, m, hs, hm, mono_lc hi.mono (ht X.s_0 X.H_0 0 [] []).mono (hb X.s_0 X.H_0 0 [] []).mono _ _ _ _ _ _ (fun d m1 z v H1 r hm1 e1 => z _ H1 ((hs.mono e1).set r n) hm1 e1) (fun _ _ z => ex_cX hs z) q⟩⟩
theorem qs_lc2 {y : Str} {py spos : Pos} {n : Nat} (hne : i ≠ i') (hc : X.calm = true) (hN : X.N.Nodup) (hy : X.N[n]? = some y) (hyl : X.env.scope.names.lookup y = some .local)
    (hsw : swapsWith (.ListComp e [⟨.Tuple [.Name x p1, .Name x' p2] k p3, a, ifs, 0⟩] scope pos) (some (.Name y py)) spos.line X.env = pure true) (hi : QI X cl W (.Tuple [.Name x p1, .Name x' p2] k p3) a it) (ok : BlkOk X.N X.env.scope scope [(x, i), (x', i')])
    (hg : Blks X scope fun Y => PG Y (.Tuple [.Name x p1, .Name x' p2] k p3) (gTup Y.K 2 (gCons (gName i) (gCons (gName i') gNil)))) (ht : Blks X scope fun Y => QTs Y cl W0 ifs t) (hb : Blks X scope fun Y => QE Y cl W0 e B) (hs : ∀ z, foldedSetIterable a X.env z = pure z) :
    QS X cl W (.Assign [.Name y py] (.ListComp e [⟨.Tuple [.Name x p1, .Name x' p2] k p3, a, ifs, 0⟩] scope pos) spos) (sAsg (eLc2 it i i' t B) (gNm n)) :=
  ⟨fun s m D D' l q => mono_lc2 hi.mono (ht X.s_0 X.H_0 0 [] []).mono (hb X.s_0 X.H_0 0 [] []).mono _ _ _ _ _ _ (fun _ _ z => l.nx _ _ z) (fun _ _ z => l.ex _ _ _ z) q,
   PS.imp (ps_setLc hc hN hy hyl hsw hi.run ok hg (fun s H C cz fp => (ht s H C cz fp).run) (fun s H C cz fp => (hb s H C cz fp).run) hs) fun D σ H ⟨s, m, hs, hm, q⟩ =>
    lc2_up hne hi.mono (ht X.s_0 X.H_0 0 [] []).mono (hb X.s_0 X.H_0 0 [] []).mono σ H _ ⟨s, m, hs, hm, mono_lc2 hi.mono (ht X.s_0 X.H_0 0 [] []).mono (hb X.s_0 X.H_0 0 [] []).mono _ _ _ _ _ _ (fun d m1 z v H1 r hm1 e1 => z _ H1 ((hs.mono e1).set r n) hm1 e1) (fun _ _ z => ex_cX hs z) q⟩⟩
end
end PV

/-! Steps through readings. -/
namespace PV
open PySem L2 PyProof.Rows
section
variable {T : Tb} {L i j : Nat} {s : S3} {m : Mp} {k : K3} {x : X3} {d u v : D} {A B C : TE3} {R : TA3} {nx bk ct : S3 → Mp → Prop} {rt : K3} {ex : S3 → X3} {t t' : TS3} {c c' : TT3} {kb : Bool → Mp → Prop} {P Q : Prop} {p q : Addr} {l r : List D}
theorem x_call {S : FSpec} {ds : List D} (h : T i S) (a : S.al) (hl : S.lev a < L) (hp : S.pre a ds m) (hk : ∀ d m', S.post a m d m' → k d m') (he : ∀ e m', S.exc a m e m' → x e m') : callS T L i ds m k x := ⟨S, h, a, hl, hp, hk, he⟩
/-! statements -/
theorem x_seq (h : t ⟨fun s' m' => t' ⟨nx, rt, bk, ct, ex⟩ s' m', rt, bk, ct, ex⟩ s m) : sSeq t t' ⟨nx, rt, bk, ct, ex⟩ s m := h
/-- ways meet: J stands there -/
theorem x_seqJ (J : S3 → Mp → Prop) (h2 : ∀ s m, J s m → t' ⟨nx, rt, bk, ct, ex⟩ s m) (h1 : ∀ n, (∀ s m, J s m → n s m) → t ⟨n, rt, bk, ct, ex⟩ s m) : sSeqJ t t' ⟨nx, rt, bk, ct, ex⟩ s m := h1 _ h2
theorem x_seqN (h : t ⟨fun s' m' => t' ⟨nx, rt, bk, ct, ex⟩ s' m', rt, bk, ct, ex⟩ s m) : sSeqJ t t' ⟨nx, rt, bk, ct, ex⟩ s m := h
theorem x_nil (h : nx s m) : sNil ⟨nx, rt, bk, ct, ex⟩ s m := h
theorem x_brk (h : bk s m) : sBrk ⟨nx, rt, bk, ct, ex⟩ s m := h
theorem x_cnt (h : ct s m) : sCnt ⟨nx, rt, bk, ct, ex⟩ s m := h
theorem x_exp (h : A s m (fun _ m1 => nx s m1) (ex s)) : sExp A ⟨nx, rt, bk, ct, ex⟩ s m := h
theorem x_ret (h : A s m rt (ex s)) : sRet A ⟨nx, rt, bk, ct, ex⟩ s m := h
theorem x_retN (h : rt .non m) : sRetN ⟨nx, rt, bk, ct, ex⟩ s m := h
theorem x_asg {g : TG3} (h : A s m (fun d m1 => g d s m1 nx) (ex s)) : sAsg A g ⟨nx, rt, bk, ct, ex⟩ s m := h
theorem x_par {R : TA3} (h : R s m (fun ds m1 => ∃ u v, ds = [u, v] ∧ nx ((s.set i (some u)).set j (some v)) m1) (ex s)) : sPar i j R ⟨nx, rt, bk, ct, ex⟩ s m := h
theorem x_par2 {Z : D → D → Prop} (h : Z u v) : ∃ u' v', [u, v] = [u', v'] ∧ Z u' v' := ⟨u, v, rfl, h⟩
theorem x_gnm {n : S3 → Mp → Prop} (h : n (s.set i (some d)) m) : gNm i d s m n := h
theorem x_if (h : c s m (fun b m1 => if b = true then t ⟨nx, rt, bk, ct, ex⟩ s m1 else t' ⟨nx, rt, bk, ct, ex⟩ s m1) (ex s)) : sIf c t t' ⟨nx, rt, bk, ct, ex⟩ s m := h
theorem x_aug {f : D → D → Mp → K3 → Prop} (h0 : s[i]? = some (some u)) (h : A s m (fun v m1 => f u v m1 (fun d m2 => nx (s.set i (some d)) m2)) (ex s)) : sAug i A f ⟨nx, rt, bk, ct, ex⟩ s m := ⟨u, h0, h⟩
theorem x_sub {O I V : TE3} (h : V s m (fun v m1 => O s m1 (fun o m2 => I s m2 (fun i m3 => fSet o i v m3 (nx s)) (ex s)) (ex s)) (ex s)) : sSub O I V ⟨nx, rt, bk, ct, ex⟩ s m := h
theorem xf_set {n : Int} {kk : Mp → Prop} (h1 : m p = some (.lst l)) (h2 : ixN l.length n = some j) (h : kk (mset m p (.lst (l.set j v)))) : fSet (.ref p) (.int n) v m kk := .inl ⟨p, l, n, j, rfl, rfl, h1, h2, h⟩
theorem xf_dset {kvs : List (Key × D)} {y : Key} {kk : Mp → Prop} (h1 : m p = some (.dK kvs)) (h2 : kvs.length < 100000) (h : kk (mset m p (.dK (putD kvs y v)))) : fSet (.ref p) (keyD y) v m kk := .inr ⟨p, kvs, y, rfl, rfl, h1, Nat.lt_of_lt_of_le h2 (by decide), h⟩
theorem xf_dsetI {kvs : List (Key × D)} {y : Int} {kk : Mp → Prop} (h1 : m p = some (.dK kvs)) (h2 : kvs.length < 100000) (h : kk (mset m p (.dK (putD kvs (.inl y) v)))) : fSet (.ref p) (.int y) v m kk := xf_dset (y := .inl y) h1 h2 h
theorem xf_dsetS {kvs : List (Key × D)} {y : Str} {kk : Mp → Prop} (h1 : m p = some (.dK kvs)) (h2 : kvs.length < 100000) (h : kk (mset m p (.dK (putD kvs (.inr y) v)))) : fSet (.ref p) (.str y) v m kk := xf_dset (y := .inr y) h1 h2 h
/-! expressions -/
theorem x_var (h0 : s[i]? = some (some d)) (h : k d m) : eVar i s m k x := ⟨d, h0, h⟩
theorem x_lit (h : k d m) : eLit d s m k x := h
theorem x_bin {f : D → D → Mp → K3 → Prop} (h : A s m (fun u m1 => B s m1 (fun v m2 => f u v m2 k) x) x) : eBin f A B s m k x := h
theorem x_neg (h : A s m (fun u m1 => ∃ i, u = .int i ∧ k (.int (-i)) m1) x) : eNeg A s m k x := h
theorem x_negI {n : Int} (h : k (.int (-n)) m) : ∃ i, D.int n = .int i ∧ k (.int (-i)) m := ⟨n, rfl, h⟩
theorem x_anil {ka : List D → Mp → Prop} (h : ka [] m) : aNil s m ka x := h
theorem x_acons {ka : List D → Mp → Prop} (h : A s m (fun d m1 => R s m1 (fun ds m2 => ka (d :: ds) m2) x) x) : aCons A R s m ka x := h
theorem x_tup (h : R s m (fun ds m1 => ds.length ≤ sizeLine ∧ k (.tup ds) m1) x) : eTup R s m k x := h
theorem x_lst (h : R s m (fun ds m1 => ds.length ≤ sizeLine ∧ ∀ p, m1 p = none → k (.ref p) (mset m1 p (.lst ds))) x) : eLst R s m k x := h
theorem x_dic (h : ∀ p, m p = none → k (.ref p) (mset m p (.dK []))) : eDic s m k x := h
theorem x_cb {f : List D → Mp → K3 → Prop} (h : R s m (fun ds m1 => f ds m1 k) x) : eCB f R s m k x := h
theorem x_ecall (h : R s m (fun ds m1 => callS T L i ds m1 k x) x) : eCall T L i R s m k x := h
theorem x_mt {n : String} {f : D → List D → Mp → K3 → Prop} (h : A s m (fun o m1 => tyD n o m1 ∧ R s m1 (fun ds m2 => f o ds m2 k) x) x) : eMt n f A R s m k x := h
theorem x_mt0 {n : String} {f : D → List D → Mp → K3 → Prop} (h : A s m (fun o m1 => tyD n o m1 ∧ f o [] m1 k) x) : eMt0 n f A s m k x := h
theorem x_tyL {Z : Prop} (h0 : RL m p l) (h : Z) : tyD "list" (.ref p) m ∧ Z := ⟨.inr (.inl ⟨rfl, p, l, rfl, h0⟩), h⟩
theorem x_tyS {Z : Prop} {z : Str} (h : Z) : tyD "str" (.str z) m ∧ Z := ⟨.inl ⟨rfl, z, rfl⟩, h⟩
theorem x_sz {ds : List D} {Z : Prop} (h0 : ds.length ≤ 100000) (h : Z) : ds.length ≤ sizeLine ∧ Z := ⟨Nat.le_trans h0 (by decide), h⟩
theorem x_and (h : A s m (fun d m1 => ∃ c, d = .bl c ∧ if c = true then B s m1 k x else k (.bl false) m1) x) : eAnd A B s m k x := h
theorem x_or (h : A s m (fun d m1 => ∃ c, d = .bl c ∧ if c = true then k (.bl true) m1 else B s m1 k x) x) : eOr A B s m k x := h
theorem x_not (h : A s m (fun d m1 => ∃ c, d = .bl c ∧ k (.bl (!c)) m1) x) : eNot A s m k x := h
theorem x_ife (h : c s m (fun b m1 => if b = true then A s m1 k x else B s m1 k x) x) : eIf c A B s m k x := h
theorem x_exb {b : Bool} {Z : Bool → Prop} (h : Z b) : ∃ c, D.bl b = .bl c ∧ Z c := ⟨b, rfl, h⟩
theorem x_chain {f g : Int → Int → Bool} (h : A s m (fun u m1 => B s m1 (fun v m2 => ∃ i j, u = .int i ∧ v = .int j ∧ if f i j = true then C s m2 (fun w m3 => ∃ l, w = .int l ∧ k (.bl (g j l)) m3) x else k (.bl false) m2) x) x) : eChain f g A B C s m k x := h
theorem x_ch1 {n o : Int} {Z : Int → Int → Prop} (h : Z n o) : ∃ i j, D.int n = .int i ∧ D.int o = .int j ∧ Z i j := ⟨n, o, rfl, rfl, h⟩
theorem x_ch2 {n : Int} {Z : Int → Prop} (h : Z n) : ∃ i, D.int n = .int i ∧ Z i := ⟨n, rfl, h⟩
/-! tests -/
theorem x_tbv (h : A s m (fun d m1 => ∃ b, d = .bl b ∧ kb b m1) x) : tBv A s m kb x := h
theorem x_ttru (h : A s m (fun d m1 => ∃ b, TruD m1 d b ∧ kb b m1) x) : tTru A s m kb x := h
theorem x_trB {b : Bool} {Z : Bool → Prop} (h : Z b) : ∃ c, TruD m (.bl b) c ∧ Z c := ⟨b, rfl, h⟩
theorem x_trI {n : Int} {Z : Bool → Prop} (h : Z (n != 0)) : ∃ c, TruD m (.int n) c ∧ Z c := ⟨_, rfl, h⟩
theorem x_trT {Z : Bool → Prop} (h : Z (!l.isEmpty)) : ∃ c, TruD m (.tup l) c ∧ Z c := ⟨_, rfl, h⟩
theorem x_trL (h0 : RL m p l) {Z : Bool → Prop} (h : Z (!l.isEmpty)) : ∃ c, TruD m (.ref p) c ∧ Z c := ⟨_, .inl ⟨l, h0, rfl⟩, h⟩
theorem x_tand (h : c s m (fun b m1 => if b = true then c' s m1 kb x else kb false m1) x) : tAnd3 c c' s m kb x := h
theorem x_tor (h : c s m (fun b m1 => if b = true then kb true m1 else c' s m1 kb x) x) : tOr3 c c' s m kb x := h
theorem x_tnot (h : c s m (fun b m1 => kb (!b) m1) x) : tNot3 c s m kb x := h
theorem x_yes (h : kb true m) : tYes3 s m kb x := h
theorem x_iT (h : P) : if true = true then P else Q := h
theorem x_itg {c : Prop} [Decidable c] (h : if c then P else Q) : if c then P else Q := h
theorem x_iF (h : Q) : if false = true then P else Q := h
theorem x_iD {Z : Prop} [Decidable Z] (h1 : Z → P) (h2 : ¬ Z → Q) : if decide Z = true then P else Q := by
  by_cases h : Z
  · rw [decide_eq_true h]; exact h1 h
  · rw [decide_eq_false h]; exact h2 h
theorem x_iN {Z : Prop} [Decidable Z] (h1 : ¬ Z → P) (h2 : Z → Q) : if (!decide Z) = true then P else Q := by
  by_cases h : Z
  · rw [decide_eq_true h]; exact h2 h
  · rw [decide_eq_false h]; exact h1 h
theorem x_iB {b : Bool} (h1 : b = true → P) (h2 : b = false → Q) : if b = true then P else Q := by
  cases b with
  | true => exact h1 rfl
  | false => exact h2 rfl
/-! operations -/
theorem xf_addI {n o : Int} (h : k (.int (n + o)) m) : fAdd (.int n) (.int o) m k := h
theorem xf_addS {n o : Str} (h0 : n.length + o.length ≤ sizeLine) (h : k (.str (n ++ o)) m) : fAdd (.str n) (.str o) m k := ⟨h0, h⟩
theorem xf_addT (h0 : l.length + r.length ≤ 100000) (h : k (.tup (l ++ r)) m) : fAdd (.tup l) (.tup r) m k := ⟨Nat.le_trans h0 (by decide), h⟩
theorem xf_addL (h1 : m p = some (.lst l)) (h2 : m q = some (.lst r)) (h0 : l.length + r.length ≤ 100000) (h : ∀ z, m z = none → k (.ref z) (mset m z (.lst (l ++ r)))) : fAdd (.ref p) (.ref q) m k := ⟨l, r, h1, h2, Nat.le_trans h0 (by decide), h⟩
theorem xf_I {Z : Int → Int → Prop} {g : Int → Int → D} {n o : Int} (h0 : Z n o) (h : k (g n o) m) : fI Z g (.int n) (.int o) m k := ⟨n, o, rfl, rfl, h0, h⟩
theorem xf_mulI {n o : Int} (h0 : CMulX n o) (h : k (.int (n * o)) m) : fMul (.int n) (.int o) m k := ⟨h0, h⟩
theorem xf_mulT {n : Int} (h1 : l ≠ []) (h2 : 2 ≤ n) (h3 : n ≤ 1000) (h4 : l.length ≤ 1000) (h : k (.tup (List.replicate n.toNat l).flatten) m) : fMul (.tup l) (.int n) m k := ⟨h1, h2, h3, h4, h⟩
theorem xf_ltI {n o : Int} (h : k (.bl (decide (n < o))) m) : fLt (.int n) (.int o) m k := h
theorem xf_ltS {n o : Str} (h : k (.bl (decide (n.cps.toList < o.cps.toList))) m) : fLt (.str n) (.str o) m k := h
theorem xf_is {neg b : Bool} (h0 : isD u v = some b) (h : k (inB neg b) m) : fIs neg u v m k := ⟨b, h0, h⟩
theorem xf_is0 {b : Bool} (h0 : isD u v = some b) (h : k (.bl b) m) : fIs false u v m k := ⟨b, h0, h⟩
theorem xf_is1 {b : Bool} (h0 : isD u v = some b) (h : k (.bl (!b)) m) : fIs true u v m k := ⟨b, h0, h⟩
theorem eqv_int {n o : Int} : PyData.eqv (.int n) (.int o) = decide (n = o) := by
  show (n == o) = decide (n = o)
  by_cases h : n = o
  · subst h; simp
  · simp [h]
theorem eqv_str {n o : Str} : PyData.eqv (.str n) (.str o) = decide (n = o) := by
  show (n == o) = decide (n = o)
  by_cases h : n = o
  · subst h; simp
  · simp [h]
theorem peq_l {d e : PyData} (h : d.depth ≤ 64) : PEq d e := Nat.le_trans (Nat.min_le_left _ _) h
theorem peq_r {d e : PyData} (h : e.depth ≤ 64) : PEq d e := Nat.le_trans (Nat.min_le_right _ _) h
theorem xf_eqI {n o : Int} (h : k (.bl (decide (n = o))) m) : fEq (.int n) (.int o) m k := ⟨_, _, .int n, .int o, peq_l (Nat.zero_le _), by rw [eqv_int]; exact h⟩
theorem xf_neI {n o : Int} (h : k (.bl (!decide (n = o))) m) : fNe (.int n) (.int o) m k := ⟨_, _, .int n, .int o, peq_l (Nat.zero_le _), by rw [eqv_int]; exact h⟩
theorem xf_eqS {n o : Str} (h : k (.bl (decide (n = o))) m) : fEq (.str n) (.str o) m k := ⟨_, _, .str n, .str o, peq_l (Nat.zero_le _), by rw [eqv_str]; exact h⟩
theorem xf_neS {n o : Str} (h : k (.bl (!decide (n = o))) m) : fNe (.str n) (.str o) m k := ⟨_, _, .str n, .str o, peq_l (Nat.zero_le _), by rw [eqv_str]; exact h⟩
theorem xf_eqB {n o : Bool} (h : k (.bl (n == o)) m) : fEq (.bl n) (.bl o) m k := ⟨_, _, .bl n, .bl o, peq_l (Nat.zero_le _), h⟩
theorem xf_ixL {n : Int} (h1 : RL m p l) (h2 : atI l n = some d) (h : k d m) : fIx (.ref p) (.int n) m k := .inl ⟨n, l, d, rfl, h1, h2, h⟩
theorem xf_dgetI {kvs : List (Key × D)} {n : Int} (h1 : m p = some (.dK kvs) ∨ m p = some (.rdK kvs)) (h2 : getD kvs (.inl n) = some d) (h : k d m) : fIx (.ref p) (.int n) m k := .inr ⟨d, ⟨kvs, .inl n, h1, rfl, h2.symm⟩, h⟩
theorem xf_dgetS {kvs : List (Key × D)} {n : Str} (h1 : m p = some (.dK kvs) ∨ m p = some (.rdK kvs)) (h2 : getD kvs (.inr n) = some d) (h : k d m) : fIx (.ref p) (.str n) m k := .inr ⟨d, ⟨kvs, .inr n, h1, rfl, h2.symm⟩, h⟩
theorem xf_dinI {kvs : List (Key × D)} {n : Int} {neg : Bool} (h1 : m p = some (.dK kvs) ∨ m p = some (.rdK kvs)) (h : k (inB neg (getD kvs (.inl n)).isSome) m) : fIn neg (.int n) (.ref p) m k := .inr (.inr ⟨p, _, rfl, ⟨kvs, .inl n, h1, rfl, rfl⟩, h⟩)
theorem xf_dinS {kvs : List (Key × D)} {n : Str} {neg : Bool} (h1 : m p = some (.dK kvs) ∨ m p = some (.rdK kvs)) (h : k (inB neg (getD kvs (.inr n)).isSome) m) : fIn neg (.str n) (.ref p) m k := .inr (.inr ⟨p, _, rfl, ⟨kvs, .inr n, h1, rfl, rfl⟩, h⟩)
theorem xf_ixT {n : Int} (h2 : atI l n = some d) (h : k d m) : fIx (.tup l) (.int n) m k := ⟨d, h2, h⟩
theorem xf_ixS {n : Int} {z : Str} {cc : Nat} (h0 : z.length ≤ sizeLine) (h2 : atI z.cps.toList n = some cc) (h : k (.str ⟨#[cc]⟩) m) : fIx (.str z) (.int n) m k := ⟨h0, cc, h2, h⟩
theorem x_sl {U V : TO3} (h : A s m (fun d m1 => U s m1 (fun lo m2 => V s m2 (fun hi m3 => fSl d lo hi m3 k) x) x) x) : eSl A U V s m k x := h
theorem x_on {ko : Option Int → Mp → Prop} (h : ko none m) : oNone s m ko x := h
theorem x_os {ko : Option Int → Mp → Prop} (h : A s m (fun d m1 => ∃ i, d = .int i ∧ ko (some i) m1) x) : oSome A s m ko x := h
theorem xf_slT {lo hi : Option Int} (h : k (.tup (cutD l lo hi)) m) : fSl (.tup l) lo hi m k := h
theorem xf_slS {lo hi : Option Int} {z : Str} (h0 : z.length ≤ sizeLine) (h : k (.str (cutS z lo hi)) m) : fSl (.str z) lo hi m k := ⟨h0, h⟩
theorem xf_slL {lo hi : Option Int} (h1 : RL m p l) (h : ∀ z, m z = none → k (.ref z) (mset m z (.lst (cutD l lo hi)))) : fSl (.ref p) lo hi m k := ⟨l, h1, h⟩
theorem xf_lenT (h : k (.int l.length) m) : fLen [.tup l] m k := h
theorem xf_lenL (h1 : RL m p l) (h : k (.int l.length) m) : fLen [.ref p] m k := .inl ⟨l, h1, h⟩
theorem xf_lenD {kvs : List (Key × D)} (h1 : m p = some (.dK kvs) ∨ m p = some (.rdK kvs)) (h : k (.int kvs.length) m) : fLen [.ref p] m k := .inr ⟨kvs, h1, h⟩
theorem xf_lenS {z : Str} (h0 : z.length ≤ sizeLine) (h : k (.int z.length) m) : fLen [.str z] m k := ⟨h0, h⟩
theorem xf_ord {cc : Nat} (h : k (.int cc) m) : fOrd [.str ⟨#[cc]⟩] m k := ⟨⟨#[cc]⟩, rfl, rfl, h⟩
theorem xf_abs {n : Int} (h : k (.int (if n < 0 then -n else n)) m) : fAbs [.int n] m k := ⟨n, rfl, h⟩
theorem xf_max2 {n o : Int} (h : k (.int (if o > n then o else n)) m) : fMax2 [.int n, .int o] m k := ⟨n, o, rfl, h⟩
theorem xf_min2 {n o : Int} (h : k (.int (if o < n then o else n)) m) : fMin2 [.int n, .int o] m k := ⟨n, o, rfl, h⟩
theorem xf_intI {n : Int} (h : k (.int n) m) : fInt [.int n] m k := .inl ⟨n, rfl, h⟩
theorem xf_intB {b : Bool} (h : k (.int (if b then 1 else 0)) m) : fInt [.bl b] m k := .inr (.inl ⟨b, rfl, h⟩)
theorem xf_intS {z : Str} {n : Int} (h1 : PySem.intText? z = some n) (h0 : z.length ≤ 640) (h : k (.int n) m) : fInt [.str z] m k := .inr (.inr ⟨z, n, rfl, h1, h0, h⟩)
theorem xf_str {n : Int} (h0 : n.natAbs.log2 < 1920) (h : k (.str (toString n)) m) : fStr [.int n] m k := .inl ⟨n, rfl, h0, h⟩
theorem xf_strB {b : Bool} (h : k (.str (if b then "True" else "False")) m) : fStr [.bl b] m k := .inr ⟨b, rfl, h⟩
theorem xf_tupL (h1 : RL m p l) (h : k (.tup l) m) : fTuple [.ref p] m k := .inl ⟨p, l, rfl, h1, h⟩
theorem xf_tupT (h : k (.tup l) m) : fTuple [.tup l] m k := .inr ⟨l, rfl, h⟩
theorem xf_lstT (h : ∀ z, m z = none → k (.ref z) (mset m z (.lst l))) : fList [.tup l] m k := ⟨l, .inr rfl, h⟩
theorem xf_lstL (h1 : RL m p l) (h : ∀ z, m z = none → k (.ref z) (mset m z (.lst l))) : fList [.ref p] m k := ⟨l, .inl ⟨p, rfl, h1⟩, h⟩
theorem xf_divmod {n o : Int} (h0 : CDivW n o) (h : k (.tup [.int (n / o), .int (n % o)]) m) : fDivmod [.int n, .int o] m k := ⟨n, o, rfl, h0, h⟩
theorem xf_app (h1 : m p = some (.lst l)) (h0 : l.length < 100000) (h : k .non (mset m p (.lst (l ++ [d])))) : fAppend (.ref p) [d] m k := ⟨p, l, d, rfl, rfl, h1, Nat.lt_of_lt_of_le h0 (by decide), h⟩
theorem xf_ext (h1 : m p = some (.lst l)) (h2 : m q = some (.lst r)) (h0 : l.length + r.length ≤ 100000) (h : k .non (mset m p (.lst (l ++ r)))) : fExtend (.ref p) [.ref q] m k := ⟨p, q, l, r, rfl, rfl, h1, h2, Nat.le_trans h0 (by decide), h⟩
/-! isinstance -/
theorem xf_isi {n o : String} {b : Bool} (h1 : TyD m d n) (h2 : kitB n o = some b) (h : k (.bl b) m) : fIsi [d, .ty o] m k := ⟨d, o, n, b, rfl, h1, h2, h⟩
def kitT : List (String × String × Bool) := [("NoneType", "int", false), ("NoneType", "str", false), ("NoneType", "tuple", false), ("NoneType", "bool", false), ("bool", "int", true), ("bool", "str", false), ("bool", "tuple", false), ("bool", "bool", true),
  ("int", "int", true), ("int", "str", false), ("int", "tuple", false), ("int", "bool", false), ("str", "int", false), ("str", "str", true), ("str", "tuple", false), ("str", "bool", false),
  ("tuple", "int", false), ("tuple", "str", false), ("tuple", "tuple", true), ("tuple", "bool", false), ("list", "int", false), ("list", "str", false), ("list", "tuple", false), ("list", "bool", false), ("list", "list", true), ("tuple", "list", false),
  ("dict", "int", false), ("dict", "str", false), ("dict", "tuple", false), ("dict", "bool", false), ("dict", "list", false), ("dict", "dict", true), ("list", "dict", false), ("NoneType", "list", false), ("bool", "list", false), ("int", "list", false), ("str", "list", false)]
theorem kit_all : kitT.all (fun p => kitB p.1 p.2.1 == some p.2.2) = true := by decide +kernel
theorem kit_of' {n o : String} {b : Bool} (h : (n, o, b) ∈ kitT) : kitB n o = some b := by
  have := List.all_eq_true.mp kit_all _ h
  simpa using this
theorem kit_t {n o : String} (h : (n, o, true) ∈ kitT) : kitB n o = some true := kit_of' h
theorem kit_f {n o : String} (h : (n, o, false) ∈ kitT) : kitB n o = some false := kit_of' h
theorem xf_isiT {m : Mp} {k : K3} {d : D} {n o : String} (h1 : TyD m d n) (h2 : (n, o, true) ∈ kitT) (h : k (.bl true) m) : fIsi [d, .ty o] m k := ⟨d, o, n, true, rfl, h1, kit_t h2, h⟩
theorem xf_isiF {m : Mp} {k : K3} {d : D} {n o : String} (h1 : TyD m d n) (h2 : (n, o, false) ∈ kitT) (h : k (.bl false) m) : fIsi [d, .ty o] m k := ⟨d, o, n, false, rfl, h1, kit_f h2, h⟩
theorem x_gtp {n : Nat} {gs : TGs3} {kk : S3 → Mp → Prop} (h0 : l.length = n) (h : gs l s m kk) : gTp n gs (.tup l) s m kk := ⟨l, rfl, h0, h⟩
theorem x_gls {n : Nat} {gs : TGs3} {kk : S3 → Mp → Prop} (h0 : RL m p l) (h1 : l.length = n) (h : gs l s m kk) : gLs n gs (.ref p) s m kk := ⟨p, l, rfl, h0, h1, h⟩
theorem x_gs1 {g : TG3} {gs : TGs3} {kk : S3 → Mp → Prop} (h : g d s m (fun s' m' => gs l s' m' kk)) : gs1 g gs (d :: l) s m kk := ⟨d, l, rfl, h⟩
theorem x_gs0 {kk : S3 → Mp → Prop} (h : kk s m) : gs0 [] s m kk := ⟨rfl, h⟩
/-! what is walked -/
theorem x_for {it : TI3} {g : TG3} (h : it s m (fun l R m1 => ∃ P : Nat → S3 → Mp → Prop, P 0 s m1 ∧ (∀ i s m, i ≤ l.length → P i s m → R m) ∧
  (∀ i d s m, l[i]? = some d → P i s m → g d s m (fun s2 m2 => t ⟨P (i + 1), rt, nx, P (i + 1), ex⟩ s2 m2)) ∧ ∀ s m, P l.length s m → nx s m) (ex s)) : sFor it g t ⟨nx, rt, bk, ct, ex⟩ s m := h
theorem x_isq {ki : List D → (Mp → Prop) → Mp → Prop} (h : A s m (fun d m1 => itD d m1 ki) x) : iSq A s m ki x := h
theorem x_itL {ki : List D → (Mp → Prop) → Mp → Prop} (h1 : RL m p l) (h : ki l (fun m' => RL m' p l) m) : itD (.ref p) m ki := .inl ⟨l, h1, h⟩
theorem x_itD {kvs : List (Key × D)} {ki : List D → (Mp → Prop) → Mp → Prop} (h1 : m p = some (.rdK kvs)) (h : ki (kvs.map fun e => keyD e.1) (fun m' => m' p = some (.rdK kvs)) m) : itD (.ref p) m ki := .inr ⟨kvs, h1, h⟩
theorem x_itT {ki : List D → (Mp → Prop) → Mp → Prop} (h : ki l (fun _ => True) m) : itD (.tup l) m ki := h
theorem x_itS {z : Str} {ki : List D → (Mp → Prop) → Mp → Prop} (h : ki (signs z) (fun _ => True) m) : itD (.str z) m ki := h
theorem x_ir1 {ki : List D → (Mp → Prop) → Mp → Prop} (h : R s m (fun ds m1 => ∃ j : Int, ds = [.int j] ∧ B62 j ∧ ki (rngD 0 1 j.toNat) (fun _ => True) m1) x) : iR1 R s m ki x := h
theorem x_ir1' {n : Int} {Z : Int → Prop} (h0 : B62 n) (h : Z n) : ∃ j : Int, [D.int n] = [.int j] ∧ B62 j ∧ Z j := ⟨n, rfl, h0, h⟩
theorem x_ir3 {ki : List D → (Mp → Prop) → Mp → Prop} (h : R s m (fun ds m1 => ∃ (i j c : Int) (n : Nat), ds = [.int i, .int j, .int c] ∧ RgC i j c n ∧ ki (rngD i c n) (fun _ => True) m1) x) : iR3 R s m ki x := h
theorem x_izp {ki : List D → (Mp → Prop) → Mp → Prop} (h : R s m (fun ds m1 => (∃ q q' l r, ds = [.ref q, .ref q'] ∧ RL m1 q l ∧ RL m1 q' r ∧ ki (zipD l r) (fun m => RL m q l ∧ RL m q' r) m1) ∨ ∃ l r, ds = [.tup l, .tup r] ∧ ki (zipD l r) (fun _ => True) m1) x) : iZp R s m ki x := h
theorem x_izT {ki : List D → (Mp → Prop) → Mp → Prop} (h : ki (zipD l r) (fun _ => True) m) : (∃ q q' l' r', [D.tup l, D.tup r] = [.ref q, .ref q'] ∧ RL m q l' ∧ RL m q' r' ∧ ki (zipD l' r') (fun m => RL m q l' ∧ RL m q' r') m) ∨ ∃ l' r', [D.tup l, D.tup r] = [.tup l', .tup r'] ∧ ki (zipD l' r') (fun _ => True) m := .inr ⟨l, r, rfl, h⟩
end
theorem x_lc {it : TI3} {i : Nat} {t : TT3} {B : TE3} {s : S3} {m : Mp} {k : K3} {x : X3} (h : it s m (fun l R m1 => ∀ q, m1 q = none → ∃ P : Nat → Mp → Prop, P 0 (mset m1 q (.lst [])) ∧ (∀ j m, j ≤ l.length → P j m → R m) ∧
  (∀ j d m, l[j]? = some d → P j m → t (s.set i (some d)) m (fun b m3 => if b = true then B (s.set i (some d)) m3 (fun y m4 => ∃ acc, m4 q = some (.lst acc) ∧ acc.length < sizeLine ∧ P (j + 1) (mset m4 q (.lst (acc ++ [y])))) noX else P (j + 1) m3) noX) ∧
  ∀ m, P l.length m → k (.ref q) m) x) : eLc it i t B s m k x := h
/-- a comprehension: from what stands ahead of element j to what stands ahead of j + 1 -/
theorem lc3 {l : List D} {Rm : Mp → Prop} {t : TT3} {B : TE3} {s : S3} {m : Mp} {i : Nat} {q : Addr} {k : K3} (P : Nat → Mp → Prop) (h0 : P 0 (mset m q (.lst []))) (hR : ∀ j m, j ≤ l.length → P j m → Rm m)
    (hs : ∀ j d m, l[j]? = some d → P j m → t (s.set i (some d)) m (fun b m3 => if b = true then B (s.set i (some d)) m3 (fun y m4 => ∃ acc, m4 q = some (.lst acc) ∧ acc.length < sizeLine ∧ P (j + 1) (mset m4 q (.lst (acc ++ [y])))) noX else P (j + 1) m3) noX)
    (hd : ∀ m, P l.length m → k (.ref q) m) : ∃ P : Nat → Mp → Prop, P 0 (mset m q (.lst [])) ∧ (∀ j m, j ≤ l.length → P j m → Rm m) ∧
  (∀ j d m, l[j]? = some d → P j m → t (s.set i (some d)) m (fun b m3 => if b = true then B (s.set i (some d)) m3 (fun y m4 => ∃ acc, m4 q = some (.lst acc) ∧ acc.length < sizeLine ∧ P (j + 1) (mset m4 q (.lst (acc ++ [y])))) noX else P (j + 1) m3) noX) ∧
  ∀ m, P l.length m → k (.ref q) m := ⟨P, h0, hR, hs, hd⟩
theorem signs_get {z : Str} {i : Nat} {d : D} (h : (signs z)[i]? = some d) : ∃ c, z.cps.toList[i]? = some c ∧ d = .str ⟨#[c]⟩ := by
  unfold signs at h
  rw [List.getElem?_map] at h
  cases e : z.cps.toList[i]? with
  | none => rw [e] at h; cases h
  | some c => rw [e] at h; exact ⟨c, rfl, (Option.some.inj h).symm⟩
theorem signs_length {z : Str} : (signs z).length = z.cps.toList.length := by simp [signs]
theorem x_whl {t : TT3} {u : TS3} {nx bk ct : S3 → Mp → Prop} {rt : K3} {ex : S3 → X3} {s : S3} {m : Mp} (P : Nat → S3 → Mp → Prop) (n : Nat) (h0 : P n s m)
    (h : ∀ n s m, P n s m → t s m (fun b m1 => if b = true then u ⟨fun s' m' => ∃ n', n' < n ∧ P n' s' m', rt, nx, fun s' m' => ∃ n', n' < n ∧ P n' s' m', ex⟩ s m1 else nx s m1) (ex s)) : sWhl t u ⟨nx, rt, bk, ct, ex⟩ s m := ⟨P, ⟨n, h0⟩, h⟩
/-- a for: from what stands at turn i to what stands at turn i + 1 -/
theorem for3 {l : List D} {Rm : Mp → Prop} {g : TG3} {t : TS3} {nx : S3 → Mp → Prop} {rt : K3} {ex : S3 → X3} {s : S3} {m : Mp} (P : Nat → S3 → Mp → Prop) (h0 : P 0 s m) (hR : ∀ i s m, i ≤ l.length → P i s m → Rm m)
    (hs : ∀ i d s m, l[i]? = some d → P i s m → g d s m (fun s2 m2 => t ⟨P (i + 1), rt, nx, P (i + 1), ex⟩ s2 m2)) (hd : ∀ s m, P l.length s m → nx s m) :
    ∃ P : Nat → S3 → Mp → Prop, P 0 s m ∧ (∀ i s m, i ≤ l.length → P i s m → Rm m) ∧ (∀ i d s m, l[i]? = some d → P i s m → g d s m (fun s2 m2 => t ⟨P (i + 1), rt, nx, P (i + 1), ex⟩ s2 m2)) ∧ ∀ s m, P l.length s m → nx s m := ⟨P, h0, hR, hs, hd⟩
end PV

/-! Frames; draws; what things look like as data. -/
namespace PV
open PySem L2 PyProof.Rows
theorem cdivw {i j : Int} (h0 : 0 < j) (h1 : j < 2 ^ 1000) : CDivW i j := wide_div h0 (show j.natAbs < 2 ^ 1000 by omega) (by decide) (by decide)
theorem cmulw {i j : Int} (h0 : -(2 ^ 400) < i ∧ i < 2 ^ 400) (h1 : -(2 ^ 400) < j ∧ j < 2 ^ 400) : CMulX i j := Nat.lt_trans (wide_mul (i := i) (j := j) (a := 400) (b := 400) (by omega) (by omega) (by decide) (by decide) (by decide)) (by decide)
theorem ne_none' {m : Mp} {a b : Addr} {o : O} (h : m b = none) (h' : m a = some o) : a ≠ b := ne_none h' h
def Fr (ps : List Addr) (m m' : Mp) : Prop := m'.kl = m.kl ∧ ∀ a o, a ∉ ps → m a = some o → m' a = some o
theorem Fr.refl (ps : List Addr) (m : Mp) : Fr ps m m := ⟨rfl, fun _ _ _ h => h⟩
theorem Fr.at {ps : List Addr} {m m' : Mp} {a : Addr} {o : O} (h : Fr ps m m') (n : a ∉ ps) (e : m a = some o) : m' a = some o := h.2 a o n e
theorem Fr.new {ps : List Addr} {m m' : Mp} {z : Addr} {o : O} (h : Fr ps m m') (hz : m' z = none) : Fr ps m (mset m' z o) := ⟨h.1, fun a u n e => by
  rw [mset_ne (ne_none (h.2 a u n e) hz)]
  exact h.2 a u n e⟩
theorem Fr.gone {ps : List Addr} {m m' : Mp} {z : Addr} (h : Fr ps m m') (hz : m' z = none) : z ∈ ps ∨ m z = none := by
  by_cases hp : z ∈ ps
  · exact .inl hp
  · refine .inr ?_
    cases e : m z with
    | none => rfl
    | some o => rw [h.2 z o hp e] at hz; cases hz
theorem Fr.set {ps : List Addr} {m m' : Mp} {p : Addr} {o : O} (h : Fr ps m m') (hp : p ∈ ps ∨ m p = none) : Fr ps m (mset m' p o) := ⟨h.1, fun a u n e => by
  have : a ≠ p := by
    rintro rfl
    rcases hp with hp | hp
    · exact n hp
    · rw [e] at hp; cases hp
  rw [mset_ne this]
  exact h.2 a u n e⟩
def Ins (qs ps : List Addr) (m : Mp) : Prop := ∀ a ∈ qs, a ∈ ps ∨ m a = none
theorem Ins.nil {ps : List Addr} {m : Mp} : Ins [] ps m := fun _ h => by cases h
theorem Ins.cons {ps qs : List Addr} {m : Mp} {a : Addr} (h : a ∈ ps ∨ m a = none) (h' : Ins qs ps m) : Ins (a :: qs) ps m := fun b hb => by
  rcases List.mem_cons.mp hb with rfl | hb
  · exact h
  · exact h' b hb
theorem Fr.sub {ps qs : List Addr} {m m' m'' : Mp} (h' : Fr qs m' m'') (hs : Ins qs ps m) (h : Fr ps m m') : Fr ps m m'' := ⟨h'.1.trans h.1, fun a o n e => by
  refine h'.2 a o (fun hq => ?_) (h.2 a o n e)
  rcases hs a hq with z | z
  · exact n z
  · rw [e] at z; cases z⟩
theorem ni_nil {a : Addr} : a ∉ ([] : List Addr) := fun h => by cases h
theorem ni_cons {a b : Addr} {l : List Addr} (h : a ≠ b) (h' : a ∉ l) : a ∉ b :: l := fun z => by
  rcases List.mem_cons.mp z with z | z
  · exact h z
  · exact h' z
theorem in_h {a : Addr} {l : List Addr} : a ∈ a :: l := List.mem_cons_self ..
theorem in_t {a b : Addr} {l : List Addr} (h : a ∈ l) : a ∈ b :: l := List.mem_cons_of_mem _ h
theorem xf_pow6 {m : Mp} {k : K3} (h : k (.int 1000000) m) : fPow (.int 10) (.int 6) m k := ⟨10, 6, rfl, rfl, by unfold CPow; decide, h⟩
theorem xf_pow15 {m : Mp} {k : K3} (h : k (.int 1000000000000000) m) : fPow (.int 10) (.int 15) m k := ⟨10, 15, rfl, rfl, by unfold CPow; decide, h⟩
theorem xf_pow30 {m : Mp} {k : K3} (h : k (.int 1000000000000000000000000000000) m) : fPow (.int 10) (.int 30) m k := ⟨10, 30, rfl, rfl, by unfold CPow; decide, h⟩
theorem RL.new {m : Mp} {p z : Addr} {l : List D} {o : O} (h : RL m p l) (hz : m z = none) : RL (mset m z o) p l := h.le ((Le.refl m).new hz)
/-- the script: read alone, and nothing of ours can be it -/
def Scr (m : Mp) (p : Addr) (l : List D) : Prop := m p = some (.rol l) ∨ m.kl p = some l
theorem Scr.rl {m : Mp} {p : Addr} {l : List D} (h : Scr m p l) : RL m p l := .inr h
theorem Scr.new {m : Mp} {p z : Addr} {l : List D} {o : O} (h : Scr m p l) (hz : m z = none) : Scr (mset m z o) p l := by
  rcases h with h | h
  · refine .inl ?_
    rw [mset_ne (ne_none h hz)]; exact h
  · exact .inr h
theorem Scr.fr {m m' : Mp} {p : Addr} {l : List D} (h : Scr m p l) (f : Fr [] m m') : Scr m' p l := by
  rcases h with h | h
  · exact .inl (f.at ni_nil h)
  · exact .inr (f.1 ▸ h)
/-! draws -/
def RowOk (row : List D) : Prop := ∃ x w : Int, row = [.int x, .int w] ∧ (w = 0 ∨ (0 ≤ x ∧ x < 536870909))
theorem fx_M {m : Mp} {k : K3} {p : Addr} {l : List D} {n : Int} (h1 : RL m p l) (h2 : 0 ≤ n) (h3 : n < l.length) (h : ∀ d, d ∈ l → atI l n = some d → k d m) : fIx (.ref p) (.int n) m k := by
  have hj : n.toNat < l.length := by omega
  have e : atI l n = some l[n.toNat] := by
    unfold atI ixN
    rw [if_pos h2, if_pos h3]
    exact List.getElem?_eq_getElem hj
  exact .inl ⟨n, l, _, rfl, h1, e, h _ (List.getElem_mem hj) e⟩
theorem atI_nat {α : Type} {l : List α} {n : Int} (h2 : 0 ≤ n) (h3 : n < l.length) : ∃ (hj : n.toNat < l.length), atI l n = some l[n.toNat] := by
  have hj : n.toNat < l.length := by omega
  refine ⟨hj, ?_⟩
  unfold atI ixN
  rw [if_pos h2, if_pos h3]
  exact List.getElem?_eq_getElem hj
/-! things -/
mutual
def D.sz : D → Nat
  | .tup l => 1 + D.szs l
  | .non => 1 | .bl _ => 1 | .int _ => 1 | .str _ => 1 | .ref _ => 1 | .ty _ => 1
def D.szs : List D → Nat
  | [] => 0
  | d :: l => D.sz d + D.szs l
end
theorem szs_app {l r : List D} : D.szs (l ++ r) = D.szs l + D.szs r := by
  induction l with
  | nil => simp [D.szs]
  | cons d l ih => simp [D.szs, ih]; omega
theorem szs_take {l : List D} {n : Nat} : D.szs (l.take n) ≤ D.szs l := by
  have := szs_app (l := l.take n) (r := l.drop n)
  rw [List.take_append_drop] at this
  omega
theorem szs_mem {l : List D} {d : D} (h : d ∈ l) : D.sz d ≤ D.szs l := by
  induction l with
  | nil => cases h
  | cons e l ih =>
    rcases List.mem_cons.mp h with rfl | h
    · simp [D.szs]
    · have := ih h; simp [D.szs]; omega
theorem szs_rep {n : Nat} {d : D} : D.szs (List.replicate n d) = n * D.sz d := by
  induction n with
  | zero => simp [D.szs]
  | succ n ih => rw [List.replicate_succ]; simp [D.szs, ih]; rw [Nat.succ_mul]; omega
/-- one of the 94 signs -/
def SgOk (c : Nat) : Prop := 32 ≤ c ∧ c ≤ 126 ∧ c ≠ 37
def big30 : Int := 1000000000000000000000000000000
def NumOk (i : Int) : Prop := -1000000000000000000000000000000 ≤ i ∧ i ≤ 1000000000000000000000000000000
def TxtOk (z : Str) : Prop := z.cps.toList.length ≤ 60 ∧ ∀ c ∈ z.cps.toList, SgOk c
def Fine : Nat → D → Prop
  | _, .non => True
  | _, .int i => NumOk i
  | _, .str z => TxtOk z
  | n + 1, .tup l => l.length ≤ 40 ∧ ∀ d ∈ l, Fine n d
  | _, _ => False
theorem Fine.non {n : Nat} : Fine n .non := by cases n <;> trivial
theorem Fine.int {n : Nat} {i : Int} (h : NumOk i) : Fine n (.int i) := by cases n <;> exact h
theorem Fine.str {n : Nat} {z : Str} (h : TxtOk z) : Fine n (.str z) := by cases n <;> exact h
theorem Fine.tup {n : Nat} {l : List D} (h : l.length ≤ 40) (h' : ∀ d ∈ l, Fine n d) : Fine (n + 1) (.tup l) := ⟨h, h'⟩
theorem Fine.num {n : Nat} {i : Int} (h : Fine n (.int i)) : NumOk i := by cases n <;> exact h
theorem Fine.txt {n : Nat} {z : Str} (h : Fine n (.str z)) : TxtOk z := by cases n <;> exact h
theorem Fine.parts {n : Nat} {l : List D} (h : Fine n (.tup l)) : ∃ k, n = k + 1 ∧ l.length ≤ 40 ∧ ∀ d ∈ l, Fine k d := by
  cases n with
  | zero => cases h
  | succ k => exact ⟨k, rfl, h.1, h.2⟩
theorem Fine.up {n : Nat} : ∀ {d : D}, Fine n d → Fine (n + 1) d := by
  induction n with
  | zero => intro d h; cases d with
    | tup l => exact h.elim
    | _ => exact h
  | succ n ih => intro d h; cases d with
    | tup l => exact ⟨h.1, fun e he => ih (h.2 e he)⟩
    | _ => exact h
theorem Fine.le {n k : Nat} {d : D} (h : Fine n d) (e : n ≤ k) : Fine k d := by
  induction e with
  | refl => exact h
  | step _ ih => exact ih.up
/-- what a fine one is -/
theorem Fine.cases {n : Nat} {d : D} (h : Fine n d) : d = .non ∨ (∃ i, d = .int i ∧ NumOk i) ∨ (∃ z, d = .str z ∧ TxtOk z) ∨ ∃ l k, d = .tup l ∧ n = k + 1 ∧ l.length ≤ 40 ∧ ∀ e ∈ l, Fine k e := by
  cases d with
  | non => exact .inl rfl
  | int i => exact .inr (.inl ⟨i, rfl, h.num⟩)
  | str z => exact .inr (.inr (.inl ⟨z, rfl, h.txt⟩))
  | tup l => obtain ⟨k, a, b, c⟩ := h.parts; exact .inr (.inr (.inr ⟨l, k, rfl, a, b, c⟩))
  | _ => cases n <;> cases h
theorem str_len {z : Str} : z.length = z.cps.toList.length := by show z.cps.size = _; simp
theorem str_app {z y : Str} : (z ++ y).cps.toList = z.cps.toList ++ y.cps.toList := by
  show (z.cps ++ y.cps).toList = _
  simp
theorem fx_S {m : Mp} {k : K3} {z : Str} {n : Int} (h0 : z.cps.toList.length ≤ 100000) (h2 : 0 ≤ n) (h3 : n < z.cps.toList.length) (h : ∀ c, c ∈ z.cps.toList → atI z.cps.toList n = some c → k (.str ⟨#[c]⟩) m) : fIx (.str z) (.int n) m k := by
  obtain ⟨hj, e⟩ := atI_nat h2 h3
  exact ⟨by rw [str_len]; exact Nat.le_trans h0 (by decide), _, e, h _ (List.getElem_mem hj) e⟩
theorem xf_addS' {n o : Str} {m : Mp} {k : K3} (h0 : n.cps.toList.length + o.cps.toList.length ≤ 100000) (h : k (.str (n ++ o)) m) : fAdd (.str n) (.str o) m k := ⟨by rw [str_len, str_len]; exact Nat.le_trans h0 (by decide), h⟩
theorem pow10_le {i n : Nat} (h : i ≤ n) : (10:Int) ^ i ≤ 10 ^ n := by exact_mod_cast Nat.pow_le_pow_right (by decide) h
theorem pow10_pos {i : Nat} : (0:Int) < 10 ^ i := by exact_mod_cast Nat.pow_pos (by decide)
end PV

/-! Things as data: equality, order. -/
namespace PV
open PySem L2 PyProof.Rows
mutual
def toP : D → PyData
  | .non => .none | .bl b => .bool b | .int i => .int i | .str z => .str z | .tup l => .tuple (toPs l) | .ref _ => .none | .ty _ => .none
def toPs : List D → List PyData
  | [] => []
  | d :: l => toP d :: toPs l
end
theorem DPs.of {m : Mp} : ∀ {l : List D}, (∀ d ∈ l, DP m d (toP d)) → DPs m l (toPs l)
  | [], _ => .nil
  | d :: l, h => .cons (h d (List.mem_cons_self ..)) (DPs.of fun e he => h e (List.mem_cons_of_mem _ he))
theorem Fine.dp {m : Mp} : ∀ {n : Nat} {d : D}, Fine n d → DP m d (toP d) := by
  intro n
  induction n with
  | zero => intro d h; cases d with
    | non => exact .non
    | int i => exact .int i
    | str z => exact .str z
    | _ => cases h
  | succ n ih => intro d h; cases d with
    | non => exact .non
    | int i => exact .int i
    | str z => exact .str z
    | tup l => exact .tup (DPs.of fun e he => ih (h.2 e he))
    | _ => cases h
theorem depthAll_of {n : Nat} : ∀ {l : List D}, (∀ d ∈ l, (toP d).depth ≤ n) → PyData.depthAll (toPs l) ≤ n
  | [], _ => Nat.zero_le _
  | d :: l, h => by
    have h1 := h d (List.mem_cons_self ..)
    have h2 := depthAll_of fun e he => h e (List.mem_cons_of_mem _ he)
    show max (toP d).depth (PyData.depthAll (toPs l)) ≤ n
    omega
theorem Fine.depth : ∀ {n : Nat} {d : D}, Fine n d → (toP d).depth ≤ n := by
  intro n
  induction n with
  | zero => intro d h; cases d with
    | tup l => cases h
    | _ => exact Nat.zero_le _
  | succ n ih => intro d h; cases d with
    | tup l =>
      have := depthAll_of fun e he => ih (h.2 e he)
      show PyData.depthAll (toPs l) + 1 ≤ n + 1
      omega
    | _ => exact Nat.zero_le _
theorem eqvAll_of {n : Nat} (ih : ∀ {a b : D}, Fine n a → Fine n b → (PyData.eqv (toP a) (toP b) = true ↔ a = b)) : ∀ {l r : List D}, (∀ d ∈ l, Fine n d) → (∀ d ∈ r, Fine n d) → (PyData.eqvAll (toPs l) (toPs r) = true ↔ l = r)
  | [], [], _, _ => by simp [toPs, PyData.eqvAll]
  | [], _ :: _, _, _ => by simp [toPs, PyData.eqvAll]
  | _ :: _, [], _, _ => by simp [toPs, PyData.eqvAll]
  | a :: l, b :: r, h, h' => by
    have h1 := ih (h a (List.mem_cons_self ..)) (h' b (List.mem_cons_self ..))
    have h2 := eqvAll_of ih (fun e he => h e (List.mem_cons_of_mem _ he)) (fun e he => h' e (List.mem_cons_of_mem _ he))
    simp only [toPs, PyData.eqvAll, Bool.and_eq_true, h1, h2, List.cons.injEq]
theorem eqv_iff : ∀ {n : Nat} {a b : D}, Fine n a → Fine n b → (PyData.eqv (toP a) (toP b) = true ↔ a = b) := by
  intro n
  induction n with
  | zero => intro a b h h'; cases a <;> cases b <;> first | exact (show False from h).elim | exact (show False from h').elim | (simp [toP, PyData.eqv])
  | succ n ih => intro a b h h'; cases a <;> cases b <;> first | exact (show False from h).elim | exact (show False from h').elim | skip
                 all_goals first | (simp [toP, PyData.eqv]; done) | skip
                 rename_i l r
                 simp only [toP, PyData.eqv, D.tup.injEq]
                 exact eqvAll_of ih h.2 h'.2
open Classical in
theorem eqv_fine {n k : Nat} {a b : D} (h : Fine n a) (h' : Fine k b) : PyData.eqv (toP a) (toP b) = decide (a = b) := by
  have := eqv_iff (h.le (Nat.le_max_left n k)) (h'.le (Nat.le_max_right n k))
  by_cases e : a = b
  · rw [decide_eq_true e]; exact this.mpr e
  · rw [decide_eq_false e]
    cases q : PyData.eqv (toP a) (toP b) with
    | false => rfl
    | true => exact absurd (this.mp q) e
open Classical in
theorem xf_eqF {n j : Nat} {a b : D} {m : Mp} {k : K3} (h1 : Fine n a) (h2 : Fine j b) (hn : n ≤ 64) (h : k (.bl (decide (a = b))) m) : fEq a b m k :=
  ⟨_, _, h1.dp, h2.dp, peq_l (Nat.le_trans h1.depth hn), by rw [eqv_fine h1 h2]; exact h⟩
open Classical in
theorem xf_neF {n j : Nat} {a b : D} {m : Mp} {k : K3} (h1 : Fine n a) (h2 : Fine j b) (hn : n ≤ 64) (h : k (.bl (!decide (a = b))) m) : fNe a b m k :=
  ⟨_, _, h1.dp, h2.dp, peq_l (Nat.le_trans h1.depth hn), by rw [eqv_fine h1 h2]; exact h⟩
/-! ### lists of ints: < -/
abbrev ltL (a b : List Int) : Bool := PySem.W.listLt a b
theorem toPs_ints {m : Mp} : ∀ {ns : List Int}, DPs m (ns.map D.int) (ns.map PyData.int)
  | [] => .nil
  | n :: ns => .cons (.int n) toPs_ints
theorem depth_ints : ∀ {ns : List Int}, PyData.depthAll (ns.map PyData.int) ≤ 0
  | [] => Nat.le_refl _
  | n :: ns => by
    have := depth_ints (ns := ns)
    show max 0 (PyData.depthAll (ns.map PyData.int)) ≤ 0
    omega
theorem xf_ltL {m : Mp} {k : K3} {p q : Addr} {a b : List Int} (h1 : RL m p (a.map D.int)) (h2 : RL m q (b.map D.int)) (h : k (.bl (ltL a b)) m) : fLt (.ref p) (.ref q) m k := by
  show ∃ d e, DP m (.ref p) d ∧ DP m (.ref q) e ∧ PEq d e ∧ PySem.W.alike d e = true ∧ d ≠ .none ∧ k (.bl (PySem.W.dataLt d e)) m
  refine ⟨.list (a.map PyData.int), .list (b.map PyData.int), .lst h1 toPs_ints, .lst h2 toPs_ints, ?_, ?_, by simp, ?_⟩
  · refine peq_l ?_
    have := depth_ints (ns := a)
    show PyData.depthAll (a.map PyData.int) + 1 ≤ 64
    omega
  · exact PySem.W.alikeAll_map (α := Int) a b
  · have : PySem.W.dataLt (.list (a.map PyData.int)) (.list (b.map PyData.int)) = ltL a b := PySem.W.lexAll_map (α := Int) a b
    rw [this]; exact h
/-! ### the row of a thing -/
mutual
def rowD : D → List Int
  | .non => [0]
  | .int i => [1, i]
  | .str z => 2 :: (z.cps.toList.map fun c : Nat => (c : Int)) ++ [-1]
  | .tup l => 3 :: rowsD l ++ [-1]
  | .bl _ => [0] | .ref _ => [0] | .ty _ => [0]
def rowsD : List D → List Int
  | [] => []
  | d :: l => rowD d ++ rowsD l
end
def kindD : D → Int
  | .non => 0 | .int _ => 1 | .str _ => 2 | .tup _ => 3 | _ => 0
theorem rowsD_app {l r : List D} : rowsD (l ++ r) = rowsD l ++ rowsD r := by
  induction l with
  | nil => rfl
  | cons d l ih => simp [rowsD, ih]
theorem row_head (d : D) : ∃ t, rowD d = kindD d :: t := by
  cases d <;> exact ⟨_, rfl⟩
theorem kind_nn (d : D) : 0 ≤ kindD d := by cases d <;> simp [kindD]
theorem rows_len {n : Nat} (ih : ∀ d, Fine n d → (rowD d).length ≤ 63 * d.sz) : ∀ {l : List D}, (∀ d ∈ l, Fine n d) → (rowsD l).length ≤ 63 * D.szs l
  | [], _ => by simp [rowsD]
  | d :: l, h => by
    have h1 := ih d (h d (List.mem_cons_self ..))
    have h2 := rows_len ih fun e he => h e (List.mem_cons_of_mem _ he)
    simp only [rowsD, List.length_append, D.szs]
    omega
theorem Fine.row_len : ∀ {n : Nat} {d : D}, Fine n d → (rowD d).length ≤ 63 * d.sz := by
  intro n
  induction n with
  | zero => intro d h; cases d with
    | str z => have := h.1; simp [rowD, D.sz] at *; omega
    | tup l => cases h
    | _ => simp [rowD, D.sz]
  | succ n ih => intro d h; cases d with
    | str z => have := h.1; simp [rowD, D.sz] at *; omega
    | tup l =>
      have := rows_len (n := n) (fun d hd => ih hd) h.2
      simp only [rowD, D.sz, List.length_cons, List.length_append, List.length_nil]
      omega
    | _ => simp [rowD, D.sz]
/-- the two part somewhere -/
def Dv (x y : List Int) : Prop := ∃ p u v s t, x = p ++ u :: s ∧ y = p ++ v :: t ∧ u ≠ v
theorem Dv.app {x y : List Int} (h : Dv x y) (a b : List Int) : Dv (x ++ a) (y ++ b) := by
  obtain ⟨p, u, v, s, t, rfl, rfl, h⟩ := h
  exact ⟨p, u, v, s ++ a, t ++ b, by simp, by simp, h⟩
theorem Dv.pre {x y : List Int} (h : Dv x y) (a : List Int) : Dv (a ++ x) (a ++ y) := by
  obtain ⟨p, u, v, s, t, rfl, rfl, h⟩ := h
  exact ⟨a ++ p, u, v, s, t, by simp, by simp, h⟩
theorem ltL_pre : ∀ (p : List Int) {x y : List Int}, ltL (p ++ x) (p ++ y) = ltL x y
  | [], _, _ => rfl
  | a :: p, x, y => by
    show (if a = a then ltL (p ++ x) (p ++ y) else _) = _
    rw [if_pos rfl]; exact ltL_pre p
theorem ltL_ne {u v : Int} {s t : List Int} (h : u ≠ v) : ltL (u :: s) (v :: t) = decide (u < v) := by
  show (if u = v then _ else _) = _
  rw [if_neg h]; rfl
theorem Dv.lt_app {x y : List Int} (h : Dv x y) (a b : List Int) : ltL (x ++ a) (y ++ b) = ltL x y := by
  obtain ⟨p, u, v, s, t, rfl, rfl, h⟩ := h
  rw [List.append_assoc, List.append_assoc, ltL_pre, ltL_pre, List.cons_append, List.cons_append, ltL_ne h, ltL_ne h]
theorem Dv.tri {x y : List Int} (h : Dv x y) : ltL y x = !ltL x y := by
  obtain ⟨p, u, v, s, t, rfl, rfl, h⟩ := h
  rw [ltL_pre, ltL_pre, ltL_ne h, ltL_ne (Ne.symm h)]
  by_cases q : u < v
  · rw [decide_eq_true q, decide_eq_false (by omega)]; rfl
  · rw [decide_eq_false q, decide_eq_true (by omega)]; rfl
theorem ltL_self : ∀ x : List Int, ltL x x = false
  | [] => rfl
  | a :: x => by
    show (if a = a then ltL x x else _) = _
    rw [if_pos rfl]; exact ltL_self x
theorem dv_codes : ∀ {a b : List Nat}, a ≠ b → Dv ((a.map fun c : Nat => (c : Int)) ++ [-1]) ((b.map fun c : Nat => (c : Int)) ++ [-1])
  | [], [], h => absurd rfl h
  | [], c :: b, _ => ⟨[], -1, c, [], (b.map fun c : Nat => (c : Int)) ++ [-1], rfl, by simp, by omega⟩
  | c :: a, [], _ => ⟨[], c, -1, (a.map fun c : Nat => (c : Int)) ++ [-1], [], by simp, rfl, by omega⟩
  | c :: a, e :: b, h => by
    by_cases q : c = e
    · subst q
      have := dv_codes (a := a) (b := b) (fun z => h (by rw [z]))
      exact this.pre [(c : Int)]
    · exact ⟨[], c, e, (a.map fun c : Nat => (c : Int)) ++ [-1], (b.map fun c : Nat => (c : Int)) ++ [-1], by simp, by simp, by omega⟩
theorem lt_codes : ∀ {a b : List Nat}, ltL ((a.map fun c : Nat => (c : Int)) ++ [-1]) ((b.map fun c : Nat => (c : Int)) ++ [-1]) = decide (a < b)
  | [], [] => by simp [ltL_self]
  | [], c :: b => by
    show ltL (-1 :: []) ((c : Int) :: _) = _
    rw [ltL_ne (by omega)]
    simp
    omega
  | c :: a, [] => by
    show ltL ((c : Int) :: _) (-1 :: []) = _
    rw [ltL_ne (by omega)]
    simp
  | c :: a, e :: b => by
    by_cases q : c = e
    · subst q
      have := lt_codes (a := a) (b := b)
      show ltL ([(c : Int)] ++ ((a.map fun c : Nat => (c : Int)) ++ [-1])) ([(c : Int)] ++ ((b.map fun c : Nat => (c : Int)) ++ [-1])) = _
      rw [ltL_pre, this]
      simp [List.cons_lt_cons_iff]
    · show ltL ((c : Int) :: _) ((e : Int) :: _) = _
      rw [ltL_ne (by omega)]
      simp [List.cons_lt_cons_iff, q]
theorem dv_rows {n : Nat} (ih : ∀ {a b : D}, Fine n a → Fine n b → a ≠ b → Dv (rowD a) (rowD b)) : ∀ {l r : List D}, (∀ d ∈ l, Fine n d) → (∀ d ∈ r, Fine n d) → l ≠ r → Dv (rowsD l ++ [-1]) (rowsD r ++ [-1])
  | [], [], _, _, h => absurd rfl h
  | [], d :: r, _, _, _ => by
    obtain ⟨t, e⟩ := row_head d
    have := kind_nn d
    refine ⟨[], -1, kindD d, [], t ++ rowsD r ++ [-1], rfl, ?_, by omega⟩
    simp [rowsD, e]
  | d :: r, [], _, _, _ => by
    obtain ⟨t, e⟩ := row_head d
    have := kind_nn d
    refine ⟨[], kindD d, -1, t ++ rowsD r ++ [-1], [], ?_, rfl, by omega⟩
    simp [rowsD, e]
  | a :: l, b :: r, h1, h2, h => by
    by_cases q : a = b
    · subst q
      have := dv_rows ih (l := l) (r := r) (fun e he => h1 e (List.mem_cons_of_mem _ he)) (fun e he => h2 e (List.mem_cons_of_mem _ he)) (fun z => h (by rw [z]))
      simp only [rowsD, List.append_assoc]
      exact this.pre _
    · have := ih (h1 a (List.mem_cons_self ..)) (h2 b (List.mem_cons_self ..)) q
      simp only [rowsD, List.append_assoc]
      exact this.app _ _
theorem dv_row : ∀ {n : Nat} {a b : D}, Fine n a → Fine n b → a ≠ b → Dv (rowD a) (rowD b) := by
  intro n
  induction n with
  | zero =>
    intro a b h h' ne
    by_cases q : kindD a = kindD b
    · cases a <;> cases b <;> first | exact (show False from h).elim | exact (show False from h').elim | (simp [kindD] at q; done) | exact absurd rfl ne | skip
      · rename_i i j; exact ⟨[1], i, j, [], [], rfl, rfl, fun z => ne (by rw [z])⟩
      · rename_i i j
        exact (dv_codes (fun z => ne (by rw [PySem.W.str_of_cps z]))).pre [2]
    · obtain ⟨t, e⟩ := row_head a
      obtain ⟨t', e'⟩ := row_head b
      exact ⟨[], _, _, t, t', e, e', q⟩
  | succ n ih =>
    intro a b h h' ne
    by_cases q : kindD a = kindD b
    · cases a <;> cases b <;> first | exact (show False from h).elim | exact (show False from h').elim | (simp [kindD] at q; done) | exact absurd rfl ne | skip
      · rename_i i j; exact ⟨[1], i, j, [], [], rfl, rfl, fun z => ne (by rw [z])⟩
      · rename_i i j
        exact (dv_codes (fun z => ne (by rw [PySem.W.str_of_cps z]))).pre [2]
      · rename_i l r
        exact (dv_rows ih h.2 h'.2 (fun z => ne (by rw [z]))).pre [3]
    · obtain ⟨t, e⟩ := row_head a
      obtain ⟨t', e'⟩ := row_head b
      exact ⟨[], _, _, t, t', e, e', q⟩
theorem Fine.dv {n k : Nat} {a b : D} (h : Fine n a) (h' : Fine k b) (ne : a ≠ b) : Dv (rowD a) (rowD b) := dv_row (h.le (Nat.le_max_left n k)) (h'.le (Nat.le_max_right n k)) ne
theorem row_kinds {a b : D} (h : kindD a ≠ kindD b) : ltL (rowD a) (rowD b) = decide (kindD a < kindD b) := by
  obtain ⟨t, e⟩ := row_head a
  obtain ⟨t', e'⟩ := row_head b
  rw [e, e', ltL_ne h]
open Classical in
/-- which is ahead -/
noncomputable def sideD (a b : D) : Int := if a = b then 0 else if ltL (rowD a) (rowD b) = true then -1 else 1
theorem sideD_self (a : D) : sideD a a = 0 := if_pos rfl
theorem sideD_ne {a b : D} (h : a ≠ b) : sideD a b = if ltL (rowD a) (rowD b) = true then -1 else 1 := if_neg h
theorem sideD_zero {a b : D} : sideD a b = 0 ↔ a = b := by
  constructor
  · intro h
    by_cases e : a = b
    · exact e
    · rw [sideD_ne e] at h; split at h <;> cases h
  · intro h; rw [h]; exact sideD_self b
theorem sideD_neg {a b : D} : sideD a b < 0 ↔ ltL (rowD a) (rowD b) = true := by
  by_cases e : a = b
  · subst e; rw [sideD_self, ltL_self]; simp
  · rw [sideD_ne e]
    split
    · rename_i h; simp [h]
    · rename_i h; simp [h]
theorem side_int {i j : Int} (h : D.int i ≠ D.int j) : sideD (.int i) (.int j) = if i < j then -1 else 1 := by
  rw [sideD_ne h]
  have : ltL (rowD (.int i)) (rowD (.int j)) = decide (i < j) := by
    show ltL ([1] ++ [i]) ([1] ++ [j]) = _
    rw [ltL_pre, ltL_ne (fun z => h (by rw [z]))]
  rw [this]; simp
theorem side_str {i j : Str} (h : D.str i ≠ D.str j) : sideD (.str i) (.str j) = if i.cps.toList < j.cps.toList then -1 else 1 := by
  rw [sideD_ne h]
  have : ltL (rowD (.str i)) (rowD (.str j)) = decide (i.cps.toList < j.cps.toList) := by
    rw [← lt_codes]
    exact ltL_pre [2]
  rw [this]; simp
theorem parts_at {l : List D} {i : Nat} {x : D} (h : l[i]? = some x) : rowsD l = rowsD (l.take i) ++ (rowD x ++ rowsD (l.drop (i + 1))) := by
  obtain ⟨hi, e⟩ := List.getElem?_eq_some_iff.mp h
  have : l = l.take i ++ (x :: l.drop (i + 1)) := by
    rw [← e, ← List.drop_eq_getElem_cons hi, List.take_append_drop]
  conv => lhs; rw [this, rowsD_app]
  rfl
theorem side_part {n k : Nat} {l r : List D} {i : Nat} {x y : D} (e : l.take i = r.take i) (hx : l[i]? = some x) (hy : r[i]? = some y) (h1 : Fine n x) (h2 : Fine k y) (ne : x ≠ y) : sideD (.tup l) (.tup r) = sideD x y := by
  have : D.tup l ≠ .tup r := by
    rintro z
    injection z with z
    rw [z] at hx
    rw [hx] at hy
    injection hy with hy
    exact ne hy
  rw [sideD_ne this, sideD_ne ne]
  have q : ltL (rowD (.tup l)) (rowD (.tup r)) = ltL (rowD x) (rowD y) := by
    show ltL ([3] ++ rowsD l ++ [-1]) ([3] ++ rowsD r ++ [-1]) = _
    rw [parts_at hx, parts_at hy, e]
    simp only [List.append_assoc]
    rw [ltL_pre, ltL_pre]
    exact (h1.dv h2 ne).lt_app _ _
  rw [q]
theorem side_len {l r : List D} (e : l.take (min l.length r.length) = r.take (min l.length r.length)) (ne : l ≠ r) : sideD (.tup l) (.tup r) = if l.length < r.length then -1 else 1 := by
  have : D.tup l ≠ .tup r := fun z => ne (by injection z)
  rw [sideD_ne this]
  have q : ltL (rowD (.tup l)) (rowD (.tup r)) = decide (l.length < r.length) := by
    show ltL ([3] ++ rowsD l ++ [-1]) ([3] ++ rowsD r ++ [-1]) = _
    by_cases h : l.length < r.length
    · rw [Nat.min_eq_left (by omega), List.take_length] at e
      have hr : r[l.length]? = some r[l.length] := List.getElem?_eq_getElem h
      rw [parts_at hr, ← e, decide_eq_true h]
      simp only [List.append_assoc]
      rw [ltL_pre, ltL_pre]
      obtain ⟨t, et⟩ := row_head r[l.length]
      rw [et]
      have := kind_nn r[l.length]
      show ltL (-1 :: []) (_ :: _) = true
      rw [ltL_ne (by omega), decide_eq_true (by omega)]
    · by_cases h' : l.length = r.length
      · rw [h', Nat.min_self, ← h', List.take_length, h', List.take_length] at e
        exact absurd e ne
      · rw [Nat.min_eq_right (by omega), List.take_length] at e
        have hl : l[r.length]? = some l[r.length] := List.getElem?_eq_getElem (by omega)
        rw [parts_at hl, e, decide_eq_false h]
        simp only [List.append_assoc]
        rw [ltL_pre, ltL_pre]
        obtain ⟨t, et⟩ := row_head l[r.length]
        rw [et]
        have := kind_nn l[r.length]
        show ltL (_ :: _) (-1 :: []) = false
        rw [ltL_ne (by omega), decide_eq_false (by omega)]
  rw [q]; simp
theorem take_next {l r : List D} {i : Nat} {x : D} (e : l.take i = r.take i) (hx : l[i]? = some x) (hy : r[i]? = some x) : l.take (i + 1) = r.take (i + 1) := by
  rw [List.take_add_one, List.take_add_one, e, hx, hy]
/-! ### slices -/
theorem mem_cutD {l : List D} {lo hi : Option Int} {d : D} (h : d ∈ cutD l lo hi) : d ∈ l := List.mem_of_mem_drop (List.mem_of_mem_take h)
theorem len_cutD {l : List D} {lo hi : Option Int} : (cutD l lo hi).length ≤ l.length := by
  unfold cutD; rw [List.length_take, List.length_drop]; omega
theorem szs_drop {l : List D} {n : Nat} : D.szs (l.drop n) ≤ D.szs l := by
  have := szs_app (l := l.take n) (r := l.drop n)
  rw [List.take_append_drop] at this
  omega
theorem szs_cutD {l : List D} {lo hi : Option Int} : D.szs (cutD l lo hi) ≤ D.szs l := Nat.le_trans szs_take szs_drop
theorem cutD_take {l : List D} {n : Nat} : cutD l none (some (n : Int)) = l.take n := by
  unfold cutD
  rw [HT.sIx_nat, HT.sIx_none, List.drop_zero, Nat.sub_zero]
  by_cases h : n ≤ l.length
  · rw [Nat.min_eq_left h]
  · rw [Nat.min_eq_right (by omega), List.take_length, List.take_of_length_le (by omega)]
theorem cutD_drop {l : List D} {n : Nat} : cutD l (some (n : Int)) none = l.drop n := by
  unfold cutD
  rw [HT.sIx_nat, HT.sIx_none]
  by_cases h : n ≤ l.length
  · rw [Nat.min_eq_left h]; exact List.take_of_length_le (by simp)
  · rw [Nat.min_eq_right (by omega), List.drop_eq_nil_of_le (Nat.le_refl _), List.drop_eq_nil_of_le (by omega)]; simp
theorem szs_at {l : List D} {i : Nat} {x : D} (h : l[i]? = some x) : D.szs l = D.szs (l.take i) + (x.sz + D.szs (l.drop (i + 1))) := by
  obtain ⟨hi, e⟩ := List.getElem?_eq_some_iff.mp h
  have : l = l.take i ++ (x :: l.drop (i + 1)) := by
    rw [← e, ← List.drop_eq_getElem_cons hi, List.take_append_drop]
  conv => lhs; rw [this, szs_app]
  rfl
theorem cutS_list {z : Str} {lo hi : Option Int} : (cutS z lo hi).cps.toList = (z.cps.toList.drop (HT.sIx z.length 0 lo)).take (HT.sIx z.length z.length hi - HT.sIx z.length 0 lo) := by
  unfold cutS; simp
theorem mem_cutS {z : Str} {lo hi : Option Int} {c : Nat} (h : c ∈ (cutS z lo hi).cps.toList) : c ∈ z.cps.toList := by
  rw [cutS_list] at h
  exact List.mem_of_mem_drop (List.mem_of_mem_take h)
theorem len_cutS {z : Str} {lo hi : Option Int} : (cutS z lo hi).cps.toList.length ≤ z.cps.toList.length := by
  rw [cutS_list, List.length_take, List.length_drop]; omega
theorem len_cutS_n {z : Str} {n : Nat} : (cutS z none (some (n : Int))).cps.toList.length ≤ n := by
  rw [cutS_list, HT.sIx_nat, List.length_take]; omega
theorem TxtOk.cut {z : Str} {lo hi : Option Int} (h : TxtOk z) : TxtOk (cutS z lo hi) := ⟨Nat.le_trans len_cutS h.1, fun c hc => h.2 c (mem_cutS hc)⟩
theorem xf_slS' {m : Mp} {k : K3} {lo hi : Option Int} {z : Str} (h0 : z.cps.toList.length ≤ 100000) (h : k (.str (cutS z lo hi)) m) : fSl (.str z) lo hi m k := ⟨by rw [str_len]; exact Nat.le_trans h0 (by decide), h⟩
theorem fx_T {m : Mp} {k : K3} {l : List D} {n : Int} (h2 : 0 ≤ n) (h3 : n < l.length) (h : ∀ d, d ∈ l → l[n.toNat]? = some d → k d m) : fIx (.tup l) (.int n) m k := by
  obtain ⟨hj, e⟩ := atI_nat h2 h3
  exact ⟨_, e, h _ (List.getElem_mem hj) (List.getElem?_eq_getElem hj)⟩
theorem len_cutD_n {l : List D} {n : Nat} : (cutD l none (some (n : Int))).length ≤ n := by rw [cutD_take, List.length_take]; omega
theorem rep_flat {n : Nat} {d : D} : (List.replicate n [d]).flatten = List.replicate n d := by simp
end PV

/-! From the promises to the law. -/
namespace PV
open PySem L2 PyProof.Rows
section
variable {P : Program} {w : World} {K : PySem.W.Frag} {mg : Str → Option Value} {base : Heap} {cl : Cl}
theorem fn0 {CXx : CXT} {fa : Addr} {fd : FuncData} {ps : List Str} {S : FSpec} : FnOk P w K mg base CXx 0 fa fd ps (liftSp K cl S 0) :=
  ⟨fun vs H Q E ⟨_, _, _, _, _, h, _⟩ => absurd h (Nat.not_lt_zero _), fun A outer s H args us vs Q E _ _ _ _ ⟨_, _, _, _, _, h, _⟩ => absurd h (Nat.not_lt_zero _)⟩
theorem kn_mk {tab : Nat → FSpec} {L i : Nat} {x qual f : Str} {st : Stmt} {fa : Addr} {fd : FuncData} {ps : List Str} (at_ : mg f = some (.ref fa)) (F : Fun K x qual st fa fd) (hb : Binds K fd ps [])
    (ok : FnOk P w K mg base (L2.CX P w) L fa fd ps (liftSp K cl (tab i) L)) : Kn P w K mg base cl (fun i S => S = tab i) L i f fa :=
  ⟨at_, F.kp, fun S e => by subst e; exact ⟨fd, ps, ok, hb⟩⟩
theorem reps_ints {H : Hp} : ∀ {ns : List Int}, Reps K H (ns.map D.int) (ns.map V.int)
  | [] => rfl
  | n :: ns => ⟨_, _, rfl, rfl, reps_ints⟩
theorem scr_start {H : Hp} {a : Addr} {ns : List Int} (hO : Only H) (hS : SqL K H a (ns.map V.int)) : ∃ m, Ab K cl H m ∧ Scr m a (ns.map D.int) := by
  rcases hS with hS | hS
  · have h : ∃ o, H a = some (.frz o (.lst (ns.map V.int))) := by
      rcases hS with hS | ⟨o, hS⟩
      · rcases hO a with e | ⟨o, xs, e⟩
        · rw [hS] at e; cases e
        · rw [hS] at e; cases e
      · exact ⟨o, hS⟩
    obtain ⟨o, h⟩ := h
    refine ⟨⟨fun b => if b = a then some (.rol (ns.map D.int)) else none, fun _ => none⟩, ⟨fun b u e => ?_, fun b l e => (by cases e)⟩, .inl (if_pos rfl)⟩
    dsimp only at e
    split at e
    · rename_i q
      cases e; subst q
      exact ⟨o, _, h, reps_ints⟩
    · cases e
  · refine ⟨⟨fun _ => none, fun b => if b = a then some (ns.map D.int) else none⟩, ⟨fun b u e => (by cases e), fun b l e => ?_⟩, .inr (if_pos rfl)⟩
    dsimp only at e
    split at e
    · rename_i q
      cases e; subst q
      exact ⟨_, hS, fun _ => reps_ints⟩
    · cases e
/-- a law's promise: True, and nothing raised -/
theorem law_sp {S : FSpec} {H : Hp} {a : Addr} {ns : List Int} {L : Nat} (al : S.al) (hl : S.lev al < L) (hO : Only H) (hS : SqL K H a (ns.map V.int))
    (pre : ∀ m, Scr m a (ns.map D.int) → S.pre al [.ref a] m) (post : ∀ m d m', S.post al m d m' → d = .bl true) (exc : ∀ m x m', ¬ S.exc al m x m') :
    liftSp K cl S L [.ref a] H (fun v _ => v = .bl true) fun _ _ _ => False := by
  obtain ⟨m, h1, h2⟩ := scr_start (cl := cl) hO hS
  refine ⟨[.ref a], m, al, ⟨_, _, rfl, rfl, rfl⟩, h1, hl, pre m h2, fun d m' h v H' r _ _ => ?_, fun x m' h => absurd h (exc _ _ _)⟩
  have := post _ _ _ h
  subst this
  exact r
/-- the law's promise as it is wanted: of a script, True, and nothing raised -/
def rawSp (K : PySem.W.Frag) : Sp := fun vs H Q _ => ∃ (a : Addr) (ns : List Int), vs = [.ref a] ∧ Only H ∧ SqL K H a (ns.map V.int) ∧ ∀ v H', v = V.bl true → Q v H'
theorem raw_of {S : FSpec} {L : Nat} (al : Addr → List Int → S.al) (hl : ∀ a ns, S.lev (al a ns) < L) (pre : ∀ a ns m, Scr m a (ns.map D.int) → S.pre (al a ns) [.ref a] m) (post : ∀ al m d m', S.post al m d m' → d = .bl true)
    (exc : ∀ al m x m', ¬ S.exc al m x m') : ∀ vs H Q E, rawSp K vs H Q E → liftSp K cl S L vs H Q E := by
  rintro vs H Q E ⟨a, ns, rfl, hO, hS, hq⟩
  obtain ⟨m, h1, h2⟩ := scr_start (cl := cl) hO hS
  refine ⟨[.ref a], m, al a ns, ⟨_, _, rfl, rfl, rfl⟩, h1, hl a ns, pre a ns m h2, fun d m' h v H' r _ _ => ?_, fun x m' h => absurd h (exc _ _ _ _)⟩
  have := post _ _ _ _ h
  subst this
  exact hq v H' r
end
end PV

/-! Codes and seals of things. -/
namespace PV
open PySem L2 PyProof.Rows
/-- a piece of at most seven signs, as a number -/
def chunkD (l : List Nat) : Int := l.foldl (fun (a : Int) (c : Nat) => 128 * a + c) 0
def chunkN (l : List Nat) : Nat := (l.length + 6) / 7
def chunkAt (l : List Nat) (i : Nat) : Int := chunkD ((l.drop (7 * i)).take 7)
def tcodes (l : List Nat) : List Int := (List.range (chunkN l)).map (chunkAt l)
mutual
def codeD : D → List Int
  | .non => [1]
  | .int i => [2, (i + 1000000000000000000000000000000) / 1000000000000000, (i + 1000000000000000000000000000000) % 1000000000000000]
  | .str z => 3 :: (z.cps.toList.length : Int) :: tcodes z.cps.toList
  | .tup l => 4 :: (l.length : Int) :: codesD l
  | .bl _ => [1] | .ref _ => [1] | .ty _ => [1]
def codesD : List D → List Int
  | [] => []
  | d :: l => codeD d ++ codesD l
end
def sealOn (a : Int) (l : List Int) : Int := l.foldl (fun a c => (a * 1234567890123456789 + c) % 2305843009213693951) a
def sealD (d : D) : Int := sealOn 7 (codeD d) + 1
theorem codesD_app {l r : List D} : codesD (l ++ r) = codesD l ++ codesD r := by
  induction l with
  | nil => rfl
  | cons d l ih => simp [codesD, ih]
theorem tcodes_len {l : List Nat} : (tcodes l).length = chunkN l := by simp [tcodes]
theorem codes_len {n : Nat} (ih : ∀ d, Fine n d → (codeD d).length ≤ 12 * d.sz) : ∀ {l : List D}, (∀ d ∈ l, Fine n d) → (codesD l).length ≤ 12 * D.szs l
  | [], _ => by simp [codesD]
  | d :: l, h => by
    have h1 := ih d (h d (List.mem_cons_self ..))
    have h2 := codes_len ih fun e he => h e (List.mem_cons_of_mem _ he)
    simp only [codesD, List.length_append, D.szs]
    omega
theorem Fine.code_len : ∀ {n : Nat} {d : D}, Fine n d → (codeD d).length ≤ 12 * d.sz := by
  intro n
  induction n with
  | zero => intro d h; cases d with
    | str z => have := h.1; simp only [codeD, D.sz, List.length_cons, tcodes_len, chunkN]; omega
    | tup l => cases h
    | _ => simp [codeD, D.sz]
  | succ n ih => intro d h; cases d with
    | str z => have := h.1; simp only [codeD, D.sz, List.length_cons, tcodes_len, chunkN]; omega
    | tup l =>
      have := codes_len (n := n) (fun d hd => ih hd) h.2
      simp only [codeD, D.sz, List.length_cons]
      omega
    | _ => simp [codeD, D.sz]
theorem sealOn_nn {a : Int} (h0 : 0 ≤ a) (h1 : a < 2305843009213693951) : ∀ (l : List Int), 0 ≤ sealOn a l ∧ sealOn a l < 2305843009213693951 := by
  intro l
  induction l generalizing a with
  | nil => exact ⟨h0, h1⟩
  | cons c l ih => exact ih (Int.emod_nonneg _ (by decide)) (Int.emod_lt_of_pos _ (by decide))
theorem sealD_pos (d : D) : 1 ≤ sealD d ∧ sealD d ≤ 2305843009213693951 := by
  have := sealOn_nn (a := 7) (by decide) (by decide) (codeD d)
  unfold sealD; omega
theorem sealOn_app {a : Int} {l r : List Int} : sealOn a (l ++ r) = sealOn (sealOn a l) r := by unfold sealOn; rw [List.foldl_append]
theorem fits_of {i : Int} (h : 0 ≤ i) (h' : i < 1000000) : Builtin.Range.rangeFitsLong i = true := by
  unfold Builtin.Range.rangeFitsLong
  rw [decide_eq_true (by omega), decide_eq_true (by omega)]; rfl
theorem rgc7 {n : Nat} (h : n ≤ 100000) : RgC 0 n 7 ((n + 6) / 7) := by
  have e : Builtin.Range.rangeSize 0 n 7 = ((n + 6) / 7 : Nat) := by
    rw [rangeSize_pos (by decide) (by omega)]
    omega
  refine ⟨by decide, by decide, ?_, e⟩
  unfold Builtin.Range.small
  rw [e, fits_of (i := 0) (by decide) (by decide), fits_of (i := (n : Int)) (by omega) (by omega), fits_of (i := 7) (by decide) (by decide), fits_of (i := (((n + 6) / 7 : Nat) : Int)) (by omega) (by omega), if_pos (by decide), fits_of (by omega) (by omega)]
  simp
theorem chunk_bound : ∀ {l : List Nat} {a : Int} {b : Int}, 0 ≤ a → a < b → (∀ c ∈ l, c < 128) → 0 ≤ l.foldl (fun (a : Int) (c : Nat) => 128 * a + c) a ∧ l.foldl (fun (a : Int) (c : Nat) => 128 * a + c) a < b * 128 ^ l.length
  | [], a, b, h0, h1, _ => by simp; omega
  | c :: l, a, b, h0, h1, h => by
    have hc := h c (List.mem_cons_self ..)
    have := chunk_bound (l := l) (a := 128 * a + c) (b := b * 128) (by omega) (by omega) (fun e he => h e (List.mem_cons_of_mem _ he))
    rw [List.foldl_cons, List.length_cons, Int.pow_succ]
    refine ⟨this.1, ?_⟩
    have e : b * (128 ^ l.length * 128) = b * 128 * 128 ^ l.length := by rw [Int.mul_comm (128 ^ l.length) 128, Int.mul_assoc]
    rw [e]; exact this.2
theorem chunk_take_next {l : List Nat} {i : Nat} {c : Nat} (h : l[i]? = some c) : chunkD (l.take (i + 1)) = 128 * chunkD (l.take i) + c := by
  rw [List.take_add_one, h]
  unfold chunkD
  rw [List.foldl_append]; rfl
theorem chunk_small {l : List Nat} (h : ∀ c ∈ l, c < 128) (hl : l.length ≤ 7) : 0 ≤ chunkD l ∧ chunkD l < 1000000000000000000 := by
  have := chunk_bound (l := l) (a := 0) (b := 1) (by decide) (by decide) h
  refine ⟨this.1, Int.lt_of_lt_of_le this.2 ?_⟩
  have : (128:Int) ^ l.length ≤ 128 ^ 7 := by exact_mod_cast Nat.pow_le_pow_right (by decide) hl
  omega
theorem tcodes_next {l : List Nat} {i : Nat} : ((List.range (i + 1)).map (chunkAt l)) = ((List.range i).map (chunkAt l)) ++ [chunkAt l i] := by
  rw [List.range_succ, List.map_append]; rfl
/-- the piece cut -/
theorem cut_chunk {z : Str} {i : Nat} (h : 7 * i ≤ z.cps.toList.length) : (cutS z (some ((7 * i : Nat) : Int)) (some ((7 * i + 7 : Nat) : Int))).cps.toList = (z.cps.toList.drop (7 * i)).take 7 := by
  rw [cutS_list, HT.sIx_nat, HT.sIx_nat, str_len, Nat.min_eq_left h]
  by_cases q : 7 * i + 7 ≤ z.cps.toList.length
  · rw [Nat.min_eq_left q, show 7 * i + 7 - 7 * i = 7 by omega]
  · rw [Nat.min_eq_right (by omega), List.take_of_length_le (by simp), List.take_of_length_le (by simp; simp at q; omega)]
theorem xf_lenS' {m : Mp} {k : K3} {z : Str} (h0 : z.cps.toList.length ≤ 100000) (h : k (.int z.cps.toList.length) m) : fLen [.str z] m k := ⟨by rw [str_len]; exact Nat.le_trans h0 (by decide), by rw [str_len]; exact h⟩
theorem x_ir3' {i j c : Int} {n : Nat} {Z : Int → Int → Int → Nat → Prop} (h0 : RgC i j c n) (h : Z i j c n) : ∃ (i' j' c' : Int) (n' : Nat), [D.int i, D.int j, D.int c] = [.int i', .int j', .int c'] ∧ RgC i' j' c' n' ∧ Z i' j' c' n' := ⟨i, j, c, n, rfl, h0, h⟩
theorem sg_lt {z : Str} (h : TxtOk z) {c : Nat} (hc : c ∈ z.cps.toList) : c < 128 := by have := (h.2 c hc).2.1; omega
theorem pw_at {e : Nat} (h : e ≤ 6) : atI [D.int 1, .int 128, .int 16384, .int 2097152, .int 268435456, .int 34359738368, .int 4398046511104] (e : Int) = some (.int (128 ^ e)) := by
  have : e = 0 ∨ e = 1 ∨ e = 2 ∨ e = 3 ∨ e = 4 ∨ e = 5 ∨ e = 6 := by omega
  rcases this with rfl | rfl | rfl | rfl | rfl | rfl | rfl <;> rfl
theorem sum_snoc {l : List Int} {a : Int} : (l ++ [a]).sum = l.sum + a := by simp
end PV

/-! Seals: alike and unlike. -/
namespace PV
open PySem L2 PyProof.Rows
theorem em_seal (x c : Int) : ((x % 2305843009213693951) * 1234567890123456789 + c) % 2305843009213693951 = (x * 1234567890123456789 + c) % 2305843009213693951 := by
  rw [Int.add_emod, Int.mul_emod, Int.emod_emod, ← Int.mul_emod, ← Int.add_emod]
theorem inj_a {a b k : Int} (I J M B : Int) (hI : I * B = M * J + 1) (e : B * (a - b) = M * k) : a - b = M * (I * k - J * (a - b)) := by
  have e3 : I * (B * (a - b)) = I * (M * k) := by rw [e]
  rw [← Int.mul_assoc, hI, Int.add_mul, Int.one_mul] at e3
  rw [Int.mul_sub, ← Int.mul_assoc M J, ← Int.mul_assoc M I, Int.mul_comm M I, Int.mul_assoc I M]
  omega
theorem inj_b {a b c B M : Int} (h : (a * B + c) % M = (b * B + c) % M) : ∃ k, B * (a - b) = M * k := by
  refine ⟨(a * B + c) / M - (b * B + c) / M, ?_⟩
  have e1 := Int.emod_add_mul_ediv (a * B + c) M
  have e2 := Int.emod_add_mul_ediv (b * B + c) M
  rw [h] at e1
  rw [Int.mul_sub, Int.mul_sub, Int.mul_comm B a, Int.mul_comm B b]
  omega
theorem inj_seal {a b c : Int} (h0 : 0 ≤ a) (h1 : a < 2305843009213693951) (h2 : 0 ≤ b) (h3 : b < 2305843009213693951) (h : (a * 1234567890123456789 + c) % 2305843009213693951 = (b * 1234567890123456789 + c) % 2305843009213693951) : a = b := by
  obtain ⟨k, e⟩ := inj_b h
  have e4 := inj_a 2179019607881955056 1166665566168714833 _ _ (by decide) e
  generalize (2179019607881955056 : Int) * k - 1166665566168714833 * (a - b) = t at e4
  clear e h
  omega
theorem inj_on : ∀ (l : List Int) {a b : Int}, 0 ≤ a → a < 2305843009213693951 → 0 ≤ b → b < 2305843009213693951 → a ≠ b → sealOn a l ≠ sealOn b l
  | [], _, _, _, _, _, _, h => h
  | c :: l, a, b, h0, h1, h2, h3, h => by
    refine inj_on l (Int.emod_nonneg _ (by decide)) (Int.emod_lt_of_pos _ (by decide)) (Int.emod_nonneg _ (by decide)) (Int.emod_lt_of_pos _ (by decide)) (fun e => h (inj_seal h0 h1 h2 h3 e))
/-- alike wherever they stand, unlike wherever they stand -/
def SA (x y : List Int) : Prop := ∀ a, sealOn a x = sealOn a y
def DA (x y : List Int) : Prop := ∀ a, sealOn a x ≠ sealOn a y
theorem SA.mid {x y : List Int} (h : SA x y) (p q : List Int) : SA (p ++ x ++ q) (p ++ y ++ q) := fun a => by
  rw [sealOn_app, sealOn_app, sealOn_app, sealOn_app, h]
theorem DA.mid {x y : List Int} (h : DA x y) (hx : x ≠ []) (hy : y ≠ []) (p q : List Int) : DA (p ++ x ++ q) (p ++ y ++ q) := fun a => by
  rw [sealOn_app, sealOn_app, sealOn_app, sealOn_app]
  have nn : ∀ (z : List Int), z ≠ [] → ∀ b, 0 ≤ sealOn b z ∧ sealOn b z < 2305843009213693951 := fun z hz b => by
    cases z with
    | nil => exact absurd rfl hz
    | cons c z => exact sealOn_nn (Int.emod_nonneg _ (by decide)) (Int.emod_lt_of_pos _ (by decide)) z
  exact inj_on q (nn x hx _).1 (nn x hx _).2 (nn y hy _).1 (nn y hy _).2 (h _)
theorem sealOn3 (a h l : Int) : sealOn a [2, h, l] = (((a * 1234567890123456789 + 2) * 1234567890123456789 + h) * 1234567890123456789 + l) % 2305843009213693951 := by
  show ((((a * 1234567890123456789 + 2) % 2305843009213693951) * 1234567890123456789 + h) % 2305843009213693951 * 1234567890123456789 + l) % 2305843009213693951 = _
  rw [em_seal]
  generalize a * 1234567890123456789 + 2 = b
  rw [Int.add_emod, Int.mul_emod, em_seal, ← Int.mul_emod, ← Int.add_emod]
/-- the two numbers of a pair have codes that are alike -/
theorem sa_num {h l t r : Int} (e : (t * 1234567890123456789) % 2305843009213693951 = r % 2305843009213693951) : SA [2, h, l] [2, h + t, l - r] := fun a => by
  rw [sealOn3, sealOn3]
  generalize (a * 1234567890123456789 + 2) * 1234567890123456789 = b
  have e1 : ((b + (h + t)) * 1234567890123456789 + (l - r)) = ((b + h) * 1234567890123456789 + l) + (t * 1234567890123456789 - r) := by omega
  rw [e1]
  have e2 : (t * 1234567890123456789 - r) % 2305843009213693951 = 0 := Int.emod_eq_emod_iff_emod_sub_eq_zero.mp e
  rw [Int.add_emod _ (t * 1234567890123456789 - r), e2, Int.add_zero, Int.emod_emod]
theorem da_num {h l v : Int} (hv : v = 1 ∨ v = -1) : DA [2, h, l] [2, h, l + v] := fun a => by
  rw [sealOn3, sealOn3]
  generalize ((a * 1234567890123456789 + 2) * 1234567890123456789 + h) * 1234567890123456789 = b
  omega
end PV

/-! Exceptions: raised, caught, asked; classes: made, fields, methods. -/
namespace PV
open PySem L2 PyProof.Rows
/-- is an exception of the class C one of the class n -/
def subX (C n : String) : Bool := C == n || n == "VaultError" || n == "ValueError"
/-! ### what the written part says of the exception classes -/
/-- one fact a row: each is read off the written part -/
structure ExF (K : PySem.W.Frag) (a : Addr) : Prop where
  ga : PySem.W.findIn K (.ref a) "__getattribute__" = some (some (.builtin "BaseException.__getattribute__"))
  gg : PySem.W.findIn K (.ref a) "__getattr__" = some none
  sb : PySem.W.subIn K (.ref a) (.type "BaseException") = some true
  hd : PySem.W.hasDictIn K a = true
  ty : PySem.W.typeIn K (.ref a) = some (.type "type")
  cls : PySem.W.findIn K (.ref a) "__class__" = some (some (.builtin "object.__class__"))
  mro : PySem.W.mroIn K a (.type "object") = some true
  kp : PySem.W.keepIn K (.ref a) = true
  ve : PySem.W.subIn K (.ref a) (.type "ValueError") = some true
  non : PySem.W.subIn K (.type "NoneType") (.ref a) = some false
  gs : PySem.W.specialIn K (.builtin "object.__class__") "__get__" = some (some (.builtin "getset_descriptor.__get__"))
  tk : PySem.W.takesIn K (.builtin "object.__class__") = some true
  is : PySem.W.isClsIn K a = true
structure ExB (K : PySem.W.Frag) (a : Addr) : Prop where
  xf : XfC K a
  ty : PySem.W.typeIn K (.ref a) = some (.type "type")
  cls : PySem.W.findIn K (.ref a) "__class__" = some (some (.builtin "object.__class__"))
  mro : PySem.W.mroIn K a (.type "object") = some true
  kp : PySem.W.keepIn K (.ref a) = true
  ve : PySem.W.kitOne K (.ref a) (.type "ValueError") = some true
  non : PySem.W.kitOne K (.type "NoneType") (.ref a) = some false
  gs : PySem.W.specialIn K (.builtin "object.__class__") "__get__" = some (some (.builtin "getset_descriptor.__get__"))
  tk : PySem.W.takesIn K (.builtin "object.__class__") = some true
  is : (PySem.W.clsIn K a).isSome = true
theorem kit_ref {K : PySem.W.Frag} {t : Value} {a : Addr} (h1 : PySem.W.isClsIn K a = true) (h2 : PySem.W.typeIn K (.ref a) = some (.type "type")) : PySem.W.kitCls K t (.ref a) = PySem.W.subIn K t (.ref a) := by
  have e2 : ((PySem.W.clsIn K a).isSome && PySem.W.typeIn K (.ref a) == some (.type "type")) = true := by
    rw [show (PySem.W.clsIn K a).isSome = true from h1, h2]; rfl
  show (if ((PySem.W.clsIn K a).isSome && PySem.W.typeIn K (.ref a) == some (.type "type")) = true then PySem.W.subIn K t (.ref a) else none) = _
  rw [if_pos e2]
theorem ExF.b {K : PySem.W.Frag} {a : Addr} (h : ExF K a) : ExB K a := by
  refine ⟨?_, h.ty, h.cls, h.mro, h.kp, ?_, ?_, h.gs, h.tk, h.is⟩
  · refine xfB_ok ?_
    unfold xfB
    rw [decide_eq_true h.ga, decide_eq_true h.gg, decide_eq_true h.sb, h.hd]; rfl
  · show (if ((Value.ref a == Value.type "ValueError") = true) then some true else PySem.W.kitCls K (.ref a) (.type "ValueError")) = _
    rw [if_neg (by intro z; cases z)]
    show (if PySem.W.kitMeta "ValueError" = true then PySem.W.subIn K (.ref a) (.type "ValueError") else none) = _
    rw [if_pos (by decide +kernel)]; exact h.ve
  · show (if ((Value.type "NoneType" == Value.ref a) = true) then some true else PySem.W.kitCls K (.type "NoneType") (.ref a)) = _
    rw [if_neg (by intro z; cases z), kit_ref h.is h.ty]; exact h.non
/-- .. of all of them -/
structure ExK (K : PySem.W.Frag) (mg : Str → Option Value) (cl : Cl) : Prop where
  at_ : ∀ n ∈ eNames, ∀ a, cl n = some a → mg (Str.ofString n) = some (.ref a)
  ok : ∀ n ∈ eNames, ∀ a, cl n = some a → ExB K a
  own : ∀ n ∈ eNames, n ≠ "Clash" → ∀ a, cl n = some a → PySem.W.excIn K a [.type "ValueError", .type "Exception", .type "BaseException", .type "object"] "ValueError.__new__" = true
  sub : ∀ n ∈ eNames, ∀ a, cl n = some a → ∀ n' ∈ eNames, ∀ a', cl n' = some a' → PySem.W.kitOne K (.ref a) (.ref a') = some (subX n n') ∧ PySem.W.exmOne K (.ref a) (.ref a') = some (subX n n')
theorem subX_self (n : String) : subX n n = true := by simp [subX]
/-- classes by a list -/
def clOf (w : World) (l : List (String × Addr)) : Cl := ⟨fun n => l.lookup n, w⟩
theorem clOf_mem {w : World} {l : List (String × Addr)} {n : String} {a : Addr} (h : clOf w l n = some a) : (n, a) ∈ l := by
  unfold clOf at h
  dsimp only at h
  induction l with
  | nil => cases h
  | cons p l ih =>
    obtain ⟨k, b⟩ := p
    rw [List.lookup_cons] at h
    split at h
    · rename_i e
      have : n = k := by simpa using e
      subst this; cases h
      exact List.mem_cons_self ..
    · exact List.mem_cons_of_mem _ (ih h)
theorem exK_mk {K : PySem.W.Frag} {mg : Str → Option Value} {l : List (String × Addr)} {cl : Cl} (hcl : ∀ n ∈ eNames, ∀ a, cl n = some a → (n, a) ∈ l) (hm : ∀ p ∈ l, mg (Str.ofString p.1) = some (.ref p.2)) (hf : ∀ p ∈ l, ExF K p.2)
    (ho : ∀ p ∈ l, p.1 ≠ "Clash" → PySem.W.excIn K p.2 [.type "ValueError", .type "Exception", .type "BaseException", .type "object"] "ValueError.__new__" = true)
    (hs : ∀ p ∈ l, ∀ q ∈ l, PySem.W.subIn K (.ref p.2) (.ref q.2) = some (subX p.1 q.1)) : ExK K mg cl := by
  refine ⟨fun n hn a h => hm _ (hcl n hn a h), fun n hn a h => (hf _ (hcl n hn a h)).b, fun n hn hc a h => ho _ (hcl n hn a h) hc, fun n hn a h n' hn' a' h' => ?_⟩
  have m1 := hcl n hn a h
  have m2 := hcl n' hn' a' h'
  have f2 := hf _ m2
  have s := hs _ m1 _ m2
  have kc : PySem.W.kitCls K (.ref a) (.ref a') = some (subX n n') := (kit_ref f2.is f2.ty).trans s
  refine ⟨?_, ?_⟩
  · show (if ((Value.ref a == Value.ref a') = true) then some true else PySem.W.kitCls K (.ref a) (.ref a')) = _
    by_cases e : a = a'
    · subst e
      rw [if_pos (by simp)]
      have s1 := hs _ m1 _ m1
      have : some (subX n n') = some (subX n n) := s.symm.trans s1
      rw [this, subX_self]
    · rw [if_neg (by intro z; exact e (by simpa using z))]; exact kc
  · show (if (PySem.W.subIn K (.ref a') (.type "BaseException") == some true) = true then PySem.W.kitCls K (.ref a) (.ref a') else none) = _
    rw [if_pos (by rw [f2.sb]; rfl)]; exact kc
section
variable {X : Cx} {pins : List (Addr × Obj)} {σ : L2.St} {H : Hp} {s : Shared} {a D : Addr} {d : Option Addr}
theorem xd_there {fs : List (Str × V)} (I : Inv X pins σ H s) (h : H D = some (.xd fs)) : ∃ o, s.heap.get? D = some o :=
  have ⟨_, names, _⟩ : ObjOk X.prog X.w H s.heap D (.xd fs) := I.hok D _ h
  (lookIn_ns names).imp fun _ q => q.1
theorem exo_obj (I : Inv X pins σ H s) (e : H a = some (exoH (.ref D) d a)) : ∃ oe : Obj, s.heap.get? a = some oe ∧ oe.cls = .ref D ∧ PySem.W.notCls oe ∧ oe.dict = d := by
  obtain ⟨oe, g, ⟨kind, dict⟩, vs, data⟩ := (show ObjOk X.prog X.w H s.heap a (.ext fun h => ∃ oe : Obj, h.get? a = some oe ∧ Zc (.ref D) d oe ∧ ∃ vs, oe.data = .fields vs) from I.hok a _ e).1
  exact ⟨oe, g, kind, by unfold PySem.W.notCls; rw [data] <;> rfl, dict⟩
theorem exo_inst (I : Inv X pins σ H s) (e : H a = some (exoH (.ref D) d a)) (hd : ∀ dd, d = some dd → ∃ fs, H dd = some (.xd fs)) : ∃ oe od, PySem.W.InstAt s.heap a oe D od := by
  obtain ⟨oe, g, kind, no, dict⟩ := exo_obj I e
  cases d with
  | none => exact ⟨oe, none, g, kind, no, by rw [dict]; trivial⟩
  | some dd =>
    obtain ⟨fs, hf⟩ := hd dd rfl
    obtain ⟨od, there⟩ := xd_there I hf
    exact ⟨oe, some od, g, kind, no, by rw [dict]; exact there⟩
/-- a field of an exception's own dict -/
theorem xd_field {fs : List (Str × V)} {f : Str} {v : V} (I : Inv X pins σ H s) (h : H D = some (.xd fs)) (l : fs.lookup f = some v) : ∃ o u, s.heap.get? D = some o ∧ PySem.W.lookIn f o = some (some u) ∧ RelV v u :=
  have ⟨m, names, vals⟩ : ObjOk X.prog X.w H s.heap D (.xd fs) := I.hok D _ h
  have ⟨o, g, reads⟩ := lookIn_ns names
  have ⟨u, e, r⟩ := RelO.some_of (v := v) (o := m f) (l ▸ vals f)
  ⟨o, u, g, by rw [reads, e], r⟩
/-- an exception, for the kit's rules of isinstance -/
theorem exo_kit (I : Inv X pins σ H s) (e : H a = some (exoH (.ref D) d a)) (hd : ∀ dd, d = some dd → ∃ fs, H dd = some (.xd fs)) (B : ExB X.K D) : ∃ P : Heap → Prop, P s.heap ∧ PySem.W.KitX X.K (.ref a) (.ref D) P :=
  have ⟨_, _, J⟩ := exo_inst I e hd
  ⟨_, J, PySem.W.kitx_exc B.is B.xf.ga B.xf.gg B.xf.exC B.cls B.gs B.tk B.mro⟩
/-- isinstance(e, c), e an exception -/
def rIsX (K : PySem.W.Frag) : List V → Hp → VK → Prop := fun xs H Q => ∃ (a D : Addr) (d : Option Addr) (c : V) (u : Value) (b : Bool), xs = [.ref a, c] ∧ ClsV c u ∧ H a = some (exoH (.ref D) d a) ∧ (∀ dd, d = some dd → ∃ fs, H dd = some (.xd fs)) ∧ ExB K D ∧ PySem.W.kitOne K (.ref D) u = some b ∧ Q (.bl b) H
def rIsXT (K : PySem.W.Frag) : List V → Hp → VK → Prop := fun xs H Q => ∃ (a D tp : Addr) (d : Option Addr) (cs : List V) (us : List Value) (b : Bool), xs = [.ref a, .ref tp] ∧ H tp = some (.tup cs) ∧ Paired ClsV cs us ∧ H a = some (exoH (.ref D) d a) ∧ (∀ dd, d = some dd → ∃ fs, H dd = some (.xd fs)) ∧ ExB K D ∧ PySem.W.kitAny K (.ref D) us = some b ∧ Q (.bl b) H
theorem call_isX : CallR X (.builtin "isinstance") (rIsX X.K) := by
  rintro pins s σ H _ us Q I r ⟨a, D, d, c, u, b, rfl, k, ea, hd, B, e, q⟩
  match us, r with
  | [_, _], .cons ra (.cons rc .nil) =>
    cases ra
    cases k.eq rc
    have ⟨P, J, Z⟩ := exo_kit I ea hd B
    exact PySem.W.kia_one Z I.kIn J e nofun fun tk => ⟨.bl b, H, I.kept (t' := tk) fun _ _ => id, rfl, q⟩
theorem call_isXT : CallR X (.builtin "isinstance") (rIsXT X.K) := by
  rintro pins s σ H _ us Q I r ⟨a, D, tp, d, cs, ws, b, rfl, hT, k, ea, hd, B, e, q⟩
  match us, r with
  | [_, _], .cons ra (.cons rt .nil) =>
    cases ra
    cases rt
    have ⟨_, its, rv, p⟩ : ObjOk X.prog X.w H s.heap tp (.tup cs) := I.hok tp _ hT
    cases ClsV.all k rv
    have ⟨P, J, Z⟩ := exo_kit I ea hd B
    obtain ⟨⟨kind, _, data, _⟩, g, z, n, z2⟩ := p
    cases (show kind = .type "tuple" from z)
    cases (show data = .seq ws.toArray n from z2)
    exact PySem.W.kia_tup Z I.kIn J g e nofun fun tk => ⟨.bl b, H, I.kept (t' := tk) fun _ _ => id, rfl, q⟩
end
/-! ### readings: isinstance -/
def isED (d : D) (ns : List String) (m : Mp) (k : K3) : Prop :=
  (∃ a C dc, d = .ref a ∧ m a = some (.exc C dc) ∧ (∀ dd, dc = some dd → ∃ fs, m dd = some (.xd fs)) ∧ k (.bl (ns.any (subX C))) m) ∨ (d = .non ∧ k (.bl false) m)
theorem mono_isED {d : D} {ns : List String} {m : Mp} {k k' : K3} (hk : ∀ d m, k d m → k' d m) (h : isED d ns m k) : isED d ns m k' := by
  rcases h with ⟨a, C, dc, h1, h2, h3, h4⟩ | ⟨h1, h2⟩
  · exact .inl ⟨a, C, dc, h1, h2, h3, hk _ _ h4⟩
  · exact .inr ⟨h1, hk _ _ h2⟩
def eIsE (A : TE3) (ns : List String) : TE3 := fun s m k x => A s m (fun d m1 => isED d ns m1 k) x
def tAs (vs : List V) : TA := fun _ H Q => Q vs H
/-- the classes that are written as arguments -/
structure QCs (X : Cx) (cl : Cl) (es : List Expr) (ns : List String) : Prop where
  run : ∃ as : List Addr, ns.map cl = as.map some ∧ (∀ n ∈ ns, n ∈ eNames) ∧ PA X es (tAs (as.map V.ref))
theorem cs_nil {X : Cx} {cl : Cl} : QCs X cl [] [] := ⟨⟨[], rfl, fun _ h => (by cases h), PA.imp pa_nil fun σ H Q h => h⟩⟩
theorem cs_cons {X : Cx} {cl : Cl} {n : String} {x : Str} {ns : List String} {es : List Expr} {p : Pos} (EK : ExK X.K X.mg cl) (hx : x = Str.ofString n) (hc : ∃ a, cl n = some a) (hn : n ∈ eNames) (hg : Gl X x) (hdb : (x == ("__debug__" : Str)) = false) (r : QCs X cl es ns)
    (hs : starEach (.Name x p :: es) X.env = (false, eval (.Name x p) X.env) :: starEach es X.env) : QCs X cl (.Name x p :: es) (n :: ns) := by
  obtain ⟨as, h1, h2, h3⟩ := r.run
  obtain ⟨a, e1⟩ := hc
  have e2 := EK.at_ n hn a e1
  refine ⟨⟨a :: as, by simp [e1, h1], fun m hm => ?_, PA.imp (pa_cons (pe_glob hg (hx ▸ e2) (show RelV (.ref a) (.ref a) from rfl) hdb) h3 hs) fun σ H Q h => h⟩⟩
  rcases List.mem_cons.mp hm with rfl | hm
  · exact hn
  · exact h2 m hm
section
variable {X : Cx} {cl : Cl} {W : WX} {a b c e o : Expr} {A B C : TE3} {rest es : List Expr} {R : TA3} {pos p p2 apos cpos : Pos} {n : String} {ns : List String}
theorem kit_none_ve {K : PySem.W.Frag} : PySem.W.kitOne K (.type "NoneType") (.type "ValueError") = some false := kit_ty (by decide +kernel)
/-- isinstance(e, C) -/
theorem q_isx1 {x : Str} (EK : ExK X.K X.mg cl) (hx : x = Str.ofString n) (hc : ∃ a, cl n = some a) (hn : n ∈ eNames) (hgx : Gl X x) (hdx : (x == ("__debug__" : Str)) = false) (hg : Gl X "isinstance") (hm : X.mg "isinstance" = none) (ha : QE X cl W a A)
    (h1 : starEach [a, .Name x p2] X.env = (false, eval a X.env) :: starEach [.Name x p2] X.env) (h2 : starEach [.Name x p2] X.env = (false, eval (.Name x p2) X.env) :: starEach [] X.env) (hpl : (backTo pos (starEach [.Name x p2] X.env)).any (·.1) = false) :
    QE X cl W (.Call (.Name "isinstance" p) [a, .Name x p2] [] pos) (eIsE A [n]) := by
  obtain ⟨ca, e1⟩ := hc
  have e2 := EK.at_ n hn ca e1
  refine ⟨fun s m k k' x x' hk hx q => ha.mono _ _ _ _ _ _ (fun d m1 z => mono_isED hk z) hx q, ?_⟩
  refine PE.imp (pe_callB (call_isX.or call_isi) hg hm (by decide +kernel) (pa_cons ha.run (pa_cons (pe_glob hgx (hx ▸ e2) (show RelV (.ref ca) (.ref ca) from rfl) hdx) pa_nil h2) h1) (by decide) (by decide) h1 hpl) fun σ H Q ⟨s, m, hs, hm, q⟩ => ?_
  refine ⟨s, m, hs, hm, ha.mono _ _ _ _ _ _ (fun d m1 z v H1 r hm1 ee => ?_) (fun _ _ z => z) q⟩
  show rIsX X.K [v, .ref ca] H1 Q ∨ rIsi X.K [v, .ref ca] H1 Q
  rcases z with ⟨ad, Cn, dc, rfl, q1, q2, q3⟩ | ⟨rfl, q1⟩
  · obtain ⟨Ca, hC, hc, hh⟩ := hm1.1 ad _ q1
    have r' : v = .ref ad := r
    refine .inl ⟨ad, Ca, dc, .ref ca, .ref ca, subX Cn n, by rw [r'], .own ca, hh, fun dd hd => ?_, EK.ok Cn hC Ca hc, (EK.sub Cn hC Ca hc n hn ca e1).1, ?_⟩
    · obtain ⟨fs, hf⟩ := q2 dd hd
      obtain ⟨fvs, hf', _⟩ := hm1.1 dd _ hf
      exact ⟨fvs, hf'⟩
    · have : ([n].any (subX Cn)) = subX Cn n := by simp
      rw [this] at q3
      exact q3 _ _ rfl hm1 ee
  · have r' : v = .non := r
    refine .inr ⟨.non, .ref ca, .type "NoneType", .ref ca, false, by rw [r'], .own ca, .base .non, (EK.ok n hn ca e1).non, q1 _ _ rfl hm1 ee⟩
theorem q_isxV (EK : ExK X.K X.mg cl) (hgx : Gl X "ValueError") (hmx : X.mg "ValueError" = none) (hg : Gl X "isinstance") (hm : X.mg "isinstance" = none) (ha : QE X cl W a A)
    (h1 : starEach [a, .Name "ValueError" p2] X.env = (false, eval a X.env) :: starEach [.Name "ValueError" p2] X.env) (h2 : starEach [.Name "ValueError" p2] X.env = (false, eval (.Name "ValueError" p2) X.env) :: starEach [] X.env) (hpl : (backTo pos (starEach [.Name "ValueError" p2] X.env)).any (·.1) = false) :
    QE X cl W (.Call (.Name "isinstance" p) [a, .Name "ValueError" p2] [] pos) (eIsE A ["ValueError"]) := by
  refine ⟨fun s m k k' x x' hk hx q => ha.mono _ _ _ _ _ _ (fun d m1 z => mono_isED hk z) hx q, ?_⟩
  refine PE.imp (pe_callB (call_isX.or call_isi) hg hm (by decide +kernel) (pa_cons ha.run (pa_cons (pe_bltn (v := V.ty "ValueError") hgx hmx PyProof.Rows.Boot.«ValueError» rfl (by decide) (by decide)) pa_nil h2) h1) (by decide) (by decide) h1 hpl) fun σ H Q ⟨s, m, hs, hm, q⟩ => ?_
  refine ⟨s, m, hs, hm, ha.mono _ _ _ _ _ _ (fun d m1 z v H1 r hm1 ee => ?_) (fun _ _ z => z) q⟩
  show rIsX X.K [v, .ty "ValueError"] H1 Q ∨ rIsi X.K [v, .ty "ValueError"] H1 Q
  rcases z with ⟨ad, Cn, dc, rfl, q1, q2, q3⟩ | ⟨rfl, q1⟩
  · obtain ⟨Ca, hC, hc, hh⟩ := hm1.1 ad _ q1
    have r' : v = .ref ad := r
    refine .inl ⟨ad, Ca, dc, .ty "ValueError", .type "ValueError", true, by rw [r'], .ty _, hh, fun dd hd => ?_, EK.ok Cn hC Ca hc, (EK.ok Cn hC Ca hc).ve, ?_⟩
    · obtain ⟨fs, hf⟩ := q2 dd hd
      obtain ⟨fvs, hf', _⟩ := hm1.1 dd _ hf
      exact ⟨fvs, hf'⟩
    · have : (["ValueError"].any (subX Cn)) = true := by simp [subX]
      rw [this] at q3
      exact q3 _ _ rfl hm1 ee
  · have r' : v = .non := r
    refine .inr ⟨.non, .ty "ValueError", .type "NoneType", .type "ValueError", false, by rw [r'], .ty _, .base .non, kit_none_ve, q1 _ _ rfl hm1 ee⟩
theorem kitAny_of {K : PySem.W.Frag} {t : Value} {f : String → Bool} {cl : Cl} : ∀ {ns : List String} {as : List Addr}, ns.map cl = as.map some → (∀ n ∈ ns, ∀ a, cl n = some a → PySem.W.kitOne K t (.ref a) = some (f n)) → PySem.W.kitAny K t (as.map Value.ref) = some (ns.any f)
  | [], [], _, _ => rfl
  | [], _ :: _, h, _ => by simp at h
  | _ :: _, [], h, _ => by simp at h
  | n :: ns, a :: as, h, hf => by
    simp only [List.map_cons, List.cons.injEq] at h
    have e := hf n (List.mem_cons_self ..) a h.1
    have ih := kitAny_of (f := f) h.2 fun m hm => hf m (List.mem_cons_of_mem _ hm)
    rw [List.map_cons, PySem.W.kitAny, e]
    cases q : f n with
    | true => simp [q]
    | false => simp only [List.any_cons, q, Bool.false_or]; exact ih
theorem paired_own : ∀ (as : List Addr), Paired ClsV (as.map V.ref) (as.map Value.ref)
  | [] => .nil
  | a :: as => .cons (.own a) (paired_own as)
/-- isinstance(e, (C1, C2, ..)) -/
theorem q_isxT {k0 : Nat} (EK : ExK X.K X.mg cl) (hg : Gl X "isinstance") (hm : X.mg "isinstance" = none) (ha : QE X cl W a A) (hc : QCs X cl es ns) (hl : ns.length ≤ 1000)
    (h1 : starEach [a, .Tuple es k0 p2] X.env = (false, eval a X.env) :: starEach [.Tuple es k0 p2] X.env) (h2 : starEach [.Tuple es k0 p2] X.env = (false, eval (.Tuple es k0 p2) X.env) :: starEach [] X.env) (hpl : (backTo pos (starEach [.Tuple es k0 p2] X.env)).any (·.1) = false) :
    QE X cl W (.Call (.Name "isinstance" p) [a, .Tuple es k0 p2] [] pos) (eIsE A ns) := by
  obtain ⟨as, c1, c2, c3⟩ := hc.run
  refine ⟨fun s m k k' x x' hk hx q => ha.mono _ _ _ _ _ _ (fun d m1 z => mono_isED hk z) hx q, ?_⟩
  have hlen : ns.length = as.length := by have := congrArg List.length c1; simpa using this
  refine PE.imp (pe_callB (call_isXT.or call_isiT) hg hm (by decide +kernel) (pa_cons ha.run (pa_cons (pe_tup c3) pa_nil h2) h1) (by decide) (by decide) h1 hpl) fun σ H Q ⟨s, m, hs, hm, q⟩ => ?_
  refine ⟨s, m, hs, hm, ha.mono _ _ _ _ _ _ (fun d m1 z v H1 r hm1 ee => ?_) (fun _ _ z => z) q⟩
  show (as.map V.ref).length ≤ sizeLine ∧ ∀ p, H1 p = none → (rIsXT X.K [v, .ref p] (upd H1 p (.tup (as.map V.ref))) Q ∨ rIsiT X.K [v, .ref p] (upd H1 p (.tup (as.map V.ref))) Q)
  refine ⟨?_, fun tp htp => ?_⟩
  · rw [List.length_map, ← hlen]
    exact Nat.le_trans hl (by decide)
  have e2 := Ext.new (o := .tup (as.map V.ref)) htp
  have hm2 := hm1.hid (u := .tup (as.map V.ref)) htp
  rcases z with ⟨ad, Cn, dc, rfl, q1, q2, q3⟩ | ⟨rfl, q1⟩
  · obtain ⟨Ca, hC, hc, hh⟩ := hm2.1 ad _ q1
    have r' : v = .ref ad := r
    refine .inl ⟨ad, Ca, tp, dc, _, _, ns.any (subX Cn), by rw [r'], upd_same, paired_own as, hh, fun dd hd => ?_, EK.ok Cn hC Ca hc, kitAny_of c1 (fun n hn a ha => (EK.sub Cn hC Ca hc n (c2 n hn) a ha).1), ?_⟩
    · obtain ⟨fs, hf⟩ := q2 dd hd
      obtain ⟨fvs, hf', _⟩ := hm2.1 dd _ hf
      exact ⟨fvs, hf'⟩
    · exact q3 _ _ rfl hm2 (ee.trans e2)
  · have r' : v = .non := r
    have : ns.any (fun _ => false) = false := by simp
    refine .inr ⟨.non, tp, _, .type "NoneType", _, false, by rw [r'], upd_same, paired_own as, .base .non, this ▸ kitAny_of c1 (fun n hn a ha => (EK.ok n (c2 n hn) a ha).non), q1 _ _ rfl hm2 (ee.trans e2)⟩
end
end PV

/-! raise, try. -/
namespace PV
open PySem L2 PyProof.Rows
/-- an object that stands untracked, newer than the ground, is tracked from now on -/
theorem inv_adopt {X : Cx} {pins : List (Addr × Obj)} {σ : L2.St} {H : Hp} {s : Shared} {D : Addr} {o : HO} (I : Inv X pins σ H s) (n0 : H D = none) (nL : D ≠ X.env.locals) (nC : ∀ x c, X.env.cells.lookup x = some c → c ≠ D) (nP : ∀ p ∈ X.pn ++ pins, p.1 ≠ D) (nD : X.s_0.heap.get? D = none) (new : ObjOk X.prog X.w (upd H D o) s.heap D o) : Inv X pins σ (upd H D o) s := by
  have other : ∀ {b}, b ≠ D → upd H D o b = H b := fun h => upd_ne h
  have tracked : ∀ {b : Addr} {v : HO}, H b = some v → b ≠ D := fun e z => by rw [z, n0] at e; cases e
  have B := I.base
  refine { ok := I.ok, os := I.os, bare := I.bare, loc := I.loc, cell := I.cell, len := I.len, free := (other (Ne.symm nL)).trans I.free, freeC := fun x c e => (other (nC x c e)).trans (I.freeC x c e), base := ?b, pin := fun p m => ?p, hok := fun b v e => ?h }
  case b =>
    exact { keep := B.keep, slot := B.slot, there := B.there, free := fun b v e n x => (other fun z => by rw [z, nD] at e; cases e).trans (B.free b v e n x), tups := fun b xs e => (other (tracked (B.tups b xs e))).trans (B.tups b xs e),
            frzs := fun b v u e => (other (tracked (B.frzs b v u e))).trans (B.frzs b v u e), tbls := fun b ps e => (B.tbls b ps e).imp fun more q => (other (tracked q)).trans q }
  case p =>
    obtain ⟨q1, q2, q3⟩ := I.pin p m
    exact ⟨q1, (other (nP p m)).trans q2, q3⟩
  case h =>
    by_cases z : b = D
    · subst z
      rw [upd_same] at e
      cases e; exact new
    · rw [other z] at e
      exact (I.hok b v e).stay (fun _ _ _ r => r) (fun c r => (other (tracked r)).trans r) fun c xs r => (other (tracked r)).trans r
/-- an exception a that has landed in the def of X: B the ground beneath it, sI the state without it, h the heap with it -/
structure Landed (X : Cx) (pins : List (Addr × Obj)) (σ : L2.St) (H : Hp) (a : Addr) (cls : Value) (d : Option Addr) (B : Heap) (sI : Shared) (s : Shared) : Prop where
  inv : Inv X pins σ H sI
  ground : ∀ b o, sI.heap.get? b = some o → b ∉ frs X.stack → B.get? b = some o
  slots : sI.heap.UpToSlots s.heap
  fly : HandSPX.FlyingZ B X.stack a (Zc cls d) s.heap
  free : H a = none
  os : s.os = sI.os
  bare : AllBare s.gens
section
variable {X : Cx} {pins : List (Addr × Obj)} {σ : L2.St} {H : Hp} {a : Addr} {cls : Value} {d : Option Addr} {B : Heap} {sI s : Shared}
/-- the state with it -/
theorem Landed.state (L : Landed X pins σ H a cls d B sI s) : Inv X pins σ H s := L.inv.landed L.ground L.fly.1 L.slots L.os L.bare
/-- its object -/
theorem Landed.obj (L : Landed X pins σ H a cls d B sI s) : ∃ oe vs, s.heap.get? a = some oe ∧ Zc cls d oe ∧ oe.data = .fields vs := L.fly.there
/-- it is no frame's -/
theorem Landed.noFrame (L : Landed X pins σ H a cls d B sI s) : a ∉ frs X.stack := fun z => by
  obtain ⟨oe, vs, g, -, e⟩ := L.obj
  obtain ⟨-, o, g', n⟩ := L.fly.2.2.1.mem z
  rw [g] at g'
  exact n vs ((congrArg Obj.data (Option.some.inj g')).symm.trans e)
/-- it is new -/
theorem Landed.notThere (L : Landed X pins σ H a cls d B sI s) : sI.heap.get? a = none := by
  cases q : sI.heap.get? a with
  | none => rfl
  | some o => exact absurd ((L.ground a o q L.noFrame).symm.trans L.fly.2.1) (fun z => nomatch z)
theorem Landed.notAtFirst (L : Landed X pins σ H a cls d B sI s) (hx : X.ex = []) : X.s_0.heap.get? a = none := by
  cases q : X.s_0.heap.get? a with
  | none => rfl
  | some o =>
    obtain ⟨o', q'⟩ := L.inv.base.there a o q (by rw [hx]; exact fun z => nomatch z)
    exact absurd (q'.symm.trans L.notThere) (fun z => nomatch z)
theorem Landed.noPin (L : Landed X pins σ H a cls d B sI s) : ∀ p ∈ X.pn ++ pins, p.1 ≠ a := fun p m z => by
  have q := (L.inv.pin p m).1
  rw [z, L.notThere] at q
  exact nomatch q
/-- more objects beside it -/
theorem Landed.more (L : Landed X pins σ H a cls d B sI s) {h : Heap} (k : ∀ b o, s.heap.get? b = some o → h.get? b = some o) : Landed X pins σ H a cls d B sI { s with heap := h } := by
  obtain ⟨st, na, ff, oe, vs, T, oT, ts, q1, q2, q3, q4, q5, q6, q7, q8⟩ := L.fly
  exact { L with slots := L.slots.trans (Heap.UpToSlots.of_keeps k), fly := ⟨fun b o e => k b o (st b o e), na, ff.of_keeps (fun b o e _ => ⟨o, k b o e, rfl⟩), oe, vs, T, oT, ts, k _ _ q1, q2, q3, q4, q5, q6, k _ _ q7, q8⟩ }
end
section
variable {X : Cx} {pins : List (Addr × Obj)} {σ : L2.St} {H : Hp} {a : Addr} {cls : Value} {d : Option Addr} {B : Heap} {sI s : Shared}
/-- into a suite's context and out of it: the def's own pins are the suite's -/
theorem suite_in (I : Inv X pins σ H s) : Inv (X.suite a (X.pn ++ pins)) [] σ H s := by
  have p := I.pin
  exact { ok := I.ok.suite a _, os := I.os, bare := I.bare, base := I.base, loc := I.loc, cell := I.cell, free := I.free, freeC := I.freeC, hok := I.hok, len := I.len, pin := fun q m => p q (by simpa using m) }
theorem suite_out {σ' : L2.St} {H' : Hp} {s' : Shared} (ok : X.Ok) (I : Inv (X.suite a (X.pn ++ pins)) [] σ' H' s') : Inv X pins σ' H' s' := by
  have p := I.pin
  exact { ok := ok, os := I.os, bare := I.bare, base := I.base, loc := I.loc, cell := I.cell, free := I.free, freeC := I.freeC, hok := I.hok, len := I.len, pin := fun q m => p q (by simpa using m) }
/-- the landed exception, tracked in its suite -/
theorem Landed.tracked (L : Landed X pins σ H a cls d B sI s) (hst : X.stack = X.env :: X.outer) (hef : X.env.frame = some X.env.locals) (hx : X.ex = []) : Inv (X.suite a (X.pn ++ pins)) [] σ (upd H a (exoH cls d a)) s := by
  have I := L.state
  obtain ⟨oe, vs, g, z, e⟩ := L.obj
  have out : ∀ b ∈ frs X.stack, b ≠ a := fun b m q => L.noFrame (q ▸ m)
  have loc : X.env.locals ∈ frs X.stack := by rw [hst]; exact List.mem_filterMap.mpr ⟨X.env, List.mem_cons_self, hef⟩
  refine inv_adopt (suite_in I) L.free (out _ loc).symm (fun y c q w => ?_) (fun p m => L.noPin p (by simpa using m)) (L.notAtFirst hx) ⟨⟨oe, g, z, vs, e⟩, ⟨oe, g⟩, fun h1 h2 q k => ?_⟩
  · obtain ⟨u, ob, q1, q2⟩ := I.cell y c q
    rw [w, g] at q1
    have q1 := Option.some.inj q1
    rw [← q1, e] at q2
    exact nomatch q2
  · obtain ⟨o, q1, q2⟩ := q
    exact ⟨o, k _ q1, q2⟩
end
/-- a row of clauses: where the wish w stands, a landed exception is handled as D asks, or goes on -/
def Clauses (X : Cx) (hs : List ExceptHandler) (w : Ends → WX) : Prop := ∀ (pins : List (Addr × Obj)) (σ : L2.St) (H : Hp) (a : Addr) (cls : Value) (d : Option Addr) (B : Heap) (sI s : Shared) (D : Ends),
  Landed X pins σ H a cls d B sI s → w D cls d σ H → wpAny (model X.prog X.w) X.A (handleBy (.ref a) X.env hs) (SP X pins D) X.xe s
section
variable {X : Cx} {W : WX}
/-- no clause is left: it flies on -/
theorem clauses_none (hst : X.stack = X.env :: X.outer) (hef : X.env.frame = some X.env.locals) (tk : Takes X W) : Clauses X [] fun _ => W := by
  intro pins σ H a cls d B sI s D L w
  refine wpAny_handleBy_nil ?_
  obtain ⟨st, na, ff, oe, vs, T, oT, ts, q1, q2, q3, q4, q5, q6, q7, q8⟩ := id L.fly
  have go : wpAny (model X.prog X.w) X.A (setFlight (.ref a) X.env.frame) (fun _ s' => wpAny (model X.prog X.w) X.A (throw (.ref a) : Sem Flow) (SP X pins D) X.xe s') X.xe s := by
    rw [hef]
    refine HandSPX.setFlight_upZ L.fly fun h held up => wpAny_throw (tk _ _ ?_)
    exact ⟨a, B, sI, pins, σ, H, cls, d, rfl, L.inv, L.ground, L.slots.trans up, .inr (.inr held), L.free, L.os, L.bare, w⟩
  unfold PySem.passOn
  refine wpAny_bind (wpAny_field q1 q3 q4 ?_)
  rw [if_neg (show ¬ ((Value.ref T == .none) = true) by simp)]
  first | exact wpAny_bind go | exact wpAny_bind (wpAny_pure (wpAny_bind go))
/-- a class's name, read where the exception is handled -/
theorem name_read {pins : List (Addr × Obj)} {σ : L2.St} {H : Hp} {a : Addr} {cls : Value} {d : Option Addr} {B : Heap} {sI s : Shared} {n : Str} {c : Value} {p : Pos} {Q E : Value → Shared → Prop} (L : Landed X pins σ H a cls d B sI s) (hst : X.stack = X.env :: X.outer) (hef : X.env.frame = some X.env.locals) (hx : X.ex = [])
    (hn : Names X n c) (q : Q c s) : wpAny (model X.prog X.w) (X.A.mark (some (.ref a))) (eval (.Name n p) X.env) Q E s := by
  have J := L.tracked hst hef hx
  obtain ⟨g, nd, m | ⟨m, v, nn⟩⟩ := hn
  · exact ld_glob J g m q nd
  · exact ld_blt J g m v q nn nd
/-- how a suite's end is the def's -/
theorem suite_end {pins : List (Addr × Obj)} {a : Addr} {D : Ends} {f : Flow} {s : Shared} (ok : X.Ok) (h : SP (X.suite a (X.pn ++ pins)) [] D f s) : SP X pins D f s := by
  cases f with
  | ret u => obtain ⟨v, σ, H, J, r, q⟩ := h; exact ⟨v, σ, H, suite_out ok J, r, q⟩
  | next => obtain ⟨σ, H, J, q⟩ := h; exact ⟨σ, H, suite_out ok J, q⟩
  | brk => obtain ⟨σ, H, J, q⟩ := h; exact ⟨σ, H, suite_out ok J, q⟩
  | cont => obtain ⟨σ, H, J, q⟩ := h; exact ⟨σ, H, suite_out ok J, q⟩
/-- except C: -/
theorem clauses_class {n : Str} {c : Value} {ts : Addr → Value → Option Addr → TS} {b0 : Stmt} {suite : List Stmt} {np hp : Pos} {rest : List ExceptHandler} {w : Ends → WX} (hst : X.stack = X.env :: X.outer) (hef : X.env.frame = some X.env.locals) (hx : X.ex = []) (hn : Names X n c)
    (hsu : ∀ (a : Addr) (cls : Value) (d : Option Addr) (pn : List (Addr × Obj)), PSs (X.suite a pn) (b0 :: suite) (ts a cls d)) (r : Clauses X rest w) :
    Clauses X (.ExceptHandler (some (.Name n np)) none (b0 :: suite) hp :: rest) fun D cls d σ H => ∃ b, PySem.W.exmOne X.K cls c = some b ∧ (b = true → ∀ a, H a = none → ts a cls d D σ (upd H a (exoH cls d a))) ∧ (b = false → w D cls d σ H) := by
  rintro pins σ H a cls d B sI s D L ⟨b, eb, yes, no⟩
  obtain ⟨oe, vs, g, z, e⟩ := L.obj
  have type : PySem.W.Looks (model X.prog X.w) s.heap (typeOf (.ref a)) cls := fun A Q E s' k q => wpAny_typeOf_ref (k _ _ g) (by rw [z.1]; exact q)
  refine wpAny_handleBy_cons (codeAny_handlers_test (name_read L hst hef hx hn ((PySem.W.exm_one (M := model X.prog X.w) L.state.kIn type eb).here ?_))) (fun q => nomatch q)
  cases b with
  | false => exact r pins σ H a cls d B sI s D L (no rfl)
  | true =>
    refine codeAny_handlers_suite (HandSPX.lands_againZ L.fly fun h fl up => ?_)
    have L2 : Landed X pins σ H a cls d B sI { s with heap := h } := { L with slots := L.slots.trans up, fly := fl }
    refine wpAny_mono ((hsu a cls d (X.pn ++ pins)).run [] _ _ _ D (L2.tracked hst hef hx) (yes rfl a L.free)) (fun f s' q => ?_) fun _ _ q => q.elim
    have q := suite_end L.inv.ok q
    cases f <;> exact q
end
/-- ends where the name in slot i is let go -/
def endI (i : Nat) (D : Ends) : Ends := { nx := fun σ H => D.nx (σ.set i none) H, rt := D.rt, bk := fun σ H => D.bk (σ.set i none) H, ct := fun σ H => D.ct (σ.set i none) H }
section
variable {X : Cx} {W : WX}
/-- except C as n: -/
theorem clauses_as {n y : Str} {i : Nat} {c : Value} {ts : Addr → Value → Option Addr → TS} {b0 : Stmt} {suite : List Stmt} {np hp : Pos} {rest : List ExceptHandler} {w : Ends → WX} (hst : X.stack = X.env :: X.outer) (hef : X.env.frame = some X.env.locals) (hx : X.ex = []) (hN : X.N.Nodup) (hi : X.N[i]? = some y) (hy : X.env.kindOf y = some .local) (hn : Names X n c)
    (hsu : ∀ (a : Addr) (cls : Value) (d : Option Addr) (pn : List (Addr × Obj)), PSs (X.suite a pn) (b0 :: suite) (ts a cls d)) (r : Clauses X rest w) :
    Clauses X (.ExceptHandler (some (.Name n np)) (some y) (b0 :: suite) hp :: rest) fun D cls d σ H => ∃ b, PySem.W.exmOne X.K cls c = some b ∧ (b = true → ∀ a, H a = none → ts a cls d (endI i D) (σ.set i (some (.ref a))) (upd H a (exoH cls d a))) ∧ (b = false → w D cls d σ H) := by
  rintro pins σ H a cls d B sI s D L ⟨b, eb, yes, no⟩
  obtain ⟨oe, vs, g, z, e⟩ := L.obj
  have type : PySem.W.Looks (model X.prog X.w) s.heap (typeOf (.ref a)) cls := fun A Q E s' k q => wpAny_typeOf_ref (k _ _ g) (by rw [z.1]; exact q)
  refine wpAny_handleBy_cons (codeAny_handlers_test (name_read L hst hef hx hn ((PySem.W.exm_one (M := model X.prog X.w) L.state.kIn type eb).here ?_))) (fun q => nomatch q)
  cases b with
  | false => exact r pins σ H a cls d B sI s D L (no rfl)
  | true =>
    refine codeAny_handlers_suite_as (HandSPX.lands_againZ L.fly fun h fl up => ?_)
    have Ln : Landed X pins σ H a cls d B sI { s with heap := h } := { L with slots := L.slots.trans up, fly := fl }
    refine store_ok (X := X.suite a (X.pn ++ pins)) (v := V.ref a) (Ln.tracked hst hef hx) hN hi (.inl hy) rfl (fun s5 J5 => ?_) (.inr hy)
    refine wpAny_mono ((hsu a cls d (X.pn ++ pins)).run [] _ _ _ (endI i D) J5 (yes rfl a L.free)) (fun f s' q => ?_) fun _ _ q => q.elim
    have gone : ∀ {σ' : L2.St} {H' : Hp} {R : Shared → Prop}, Inv X pins σ' H' s' → (∀ s7, Inv X pins (σ'.set i none) H' s7 → R s7) → wpAny (model X.prog X.w) X.A (do bindName X.env y .none; unbindBehindTheSuite X.env y hp) (fun _ s7 => R s7) X.xe s' := fun J q => gone_ok J hN hi hy q
    have q := suite_end L.inv.ok q
    cases f with
    | ret u => obtain ⟨v, σ', H', J, rv, k⟩ := q; exact gone J fun s7 J7 => ⟨v, _, H', J7, rv, k⟩
    | next => obtain ⟨σ', H', J, k⟩ := q; exact gone J fun s7 J7 => ⟨_, H', J7, k⟩
    | brk => obtain ⟨σ', H', J, k⟩ := q; exact gone J fun s7 J7 => ⟨_, H', J7, k⟩
    | cont => obtain ⟨σ', H', J, k⟩ := q; exact gone J fun s7 J7 => ⟨_, H', J7, k⟩
/-- except (C1, C2): -/
theorem clauses_two {n1 n2 : Str} {c1 c2 : Value} {ts : Addr → Value → Option Addr → TS} {b0 : Stmt} {suite : List Stmt} {p1 p2 tp hp : Pos} {kk : Nat} {rest : List ExceptHandler} {w : Ends → WX} (hst : X.stack = X.env :: X.outer) (hef : X.env.frame = some X.env.locals) (hx : X.ex = []) (h1 : Names X n1 c1) (h2 : Names X n2 c2)
    (hsu : ∀ (a : Addr) (cls : Value) (d : Option Addr) (pn : List (Addr × Obj)), PSs (X.suite a pn) (b0 :: suite) (ts a cls d)) (r : Clauses X rest w) :
    Clauses X (.ExceptHandler (some (.Tuple [.Name n1 p1, .Name n2 p2] kk tp)) none (b0 :: suite) hp :: rest) fun D cls d σ H => ∃ b, PySem.W.exmAny X.K cls [c1, c2] = some b ∧ (b = true → ∀ a, H a = none → ts a cls d D σ (upd H a (exoH cls d a))) ∧ (b = false → w D cls d σ H) := by
  rintro pins σ H a cls d B sI s D L ⟨b, eb, yes, no⟩
  obtain ⟨oe, vs, g, z, e⟩ := L.obj
  have type : PySem.W.Looks (model X.prog X.w) s.heap (typeOf (.ref a)) cls := fun A Q E s' k q => wpAny_typeOf_ref (k _ _ g) (by rw [z.1]; exact q)
  refine wpAny_handleBy_cons (codeAny_handlers_test (wpAny_Tuple (wpAny_items_cons (name_read L hst hef hx h1 (wpAny_items_cons (name_read L hst hef hx h2 (wpAny_items_nil ⟨by size_fits, ?_⟩))))))) (fun q => nomatch q)
  have up : ∀ b o, s.heap.get? b = some o → (s.heap.push { cls := .type "tuple", data := .seq [c1, c2].toArray }).get? b = some o := fun _ _ => Heap.get?_push_of_some _
  have L5 := L.more up
  refine (PySem.W.exm_tup2 (M := model X.prog X.w) L5.state.kIn (type.keeps up) (Heap.get?_push_size s.heap rfl) eb).here ?_
  generalize s.heap.push { cls := .type "tuple", data := .seq [c1, c2].toArray } = h5 at *
  cases b with
  | false => exact r pins σ H a cls d B sI _ D L5 (no rfl)
  | true =>
    refine codeAny_handlers_suite (HandSPX.lands_againZ L5.fly fun h fl up6 => ?_)
    have L6 : Landed X pins σ H a cls d B sI { s with heap := h } := { L with slots := L5.slots.trans up6, fly := fl }
    refine wpAny_mono ((hsu a cls d (X.pn ++ pins)).run [] _ _ _ D (L6.tracked hst hef hx) (yes rfl a L.free)) (fun f s' q => ?_) fun _ _ q => q.elim
    have q := suite_end L.inv.ok q
    cases f <;> exact q
end
/-- try: the body under the clauses' wish -/
theorem try_clauses {X : Cx} {body : List Stmt} {h0 : ExceptHandler} {hs : List ExceptHandler} {pos : Pos} {tb : WX → TS} {w : Ends → WX} (hst : X.stack = X.env :: X.outer) (hef : X.env.frame = some X.env.locals)
    (hb : ∀ (W : WX) (pn : List (Addr × Obj)) (xe : Value → Shared → Prop), Takes (X.tr pn xe) W → PassesOwn (model X.prog X.w) X.A X.env xe → PSs (X.tr pn xe) body (tb W)) (hc : Clauses X (h0 :: hs) w) : PS X (.Try body (h0 :: hs) [] [] pos) fun D σ H => tb (w D) D σ H := by
  constructor
  intro pins s σ H D I wish
  refine wpAny_Try_except (wpAny_mono ((hb (w D) (X.pn ++ pins) _ ?air PassesOwn.looking).run [] s σ H D (I.toTry _) wish) (fun f s1 q => ?_) fun _ _ q => q)
  case air =>
    rintro u s1 ⟨a, B, sI, pb, σ1, H1, cls, d, rfl, J, nb, up, sky, na, os, ag, wx⟩
    have fr : X.A.frames = some (X.env :: X.outer) := I.ok.frames.trans (congrArg some hst)
    refine Sky.land Zc.steady fr hef (hst ▸ sky) fun h fl up2 => ?_
    exact hc pins σ1 H1 a cls d B sI { s1 with heap := h } D ⟨J.ofTry I.ok, nb, up.trans up2, hst ▸ fl, na, os, ag⟩ wx
  cases f with
  | next => obtain ⟨σ1, H1, J, q⟩ := q; exact wpAny_execs_nil ⟨σ1, H1, J.ofTry I.ok, q⟩
  | ret u => obtain ⟨v, σ1, H1, J, r, q⟩ := q; exact ⟨v, σ1, H1, J.ofTry I.ok, r, q⟩
  | brk => obtain ⟨σ1, H1, J, q⟩ := q; exact ⟨σ1, H1, J.ofTry I.ok, q⟩
  | cont => obtain ⟨σ1, H1, J, q⟩ := q; exact ⟨σ1, H1, J.ofTry I.ok, q⟩
/-! ### readings -/
def endN (sl : Option Nat) (D : N3) : N3 := match sl with
  | none => { D with ex := fun _ => noX }
  | some i => { nx := fun s m => D.nx (s.set i none) m, rt := D.rt, bk := fun s m => D.bk (s.set i none) m, ct := fun s m => D.ct (s.set i none) m, ex := fun _ => noX }
def setN (sl : Option Nat) (s : S3) (a : Addr) : S3 := match sl with
  | none => s
  | some i => s.set i (some (.ref a))
/-- a clause: its class, its name's slot, its suite -/
abbrev Hd3 := String × Option Nat × TS3
def dsp : List Hd3 → N3 → S3 → X3
  | [], D, s, x, m => D.ex s x m
  | h :: r, D, s, x, m => if subX x.cls h.1 = true then ∀ a, m a = none → h.2.2 (endN h.2.1 D) (setN h.2.1 s a) (mset m a (.exc x.cls x.dct)) else dsp r D s x m
def sTry (B : TS3) (hs : List Hd3) : TS3 := fun D s m => B { D with ex := dsp hs D } s m
inductive QH (X : Cx) (cl : Cl) : List ExceptHandler → List Hd3 → Prop
  | nil : QH X cl [] []
  | cons {n : String} {x : Str} {S : TS3} {b₀ : Stmt} {suite : List Stmt} {np pos' : Pos} {hds : List ExceptHandler} {l : List Hd3} (hn : n ∈ eNames) (hcl : ∃ a, cl n = some a) (hx : x = Str.ofString n) (hg : Gl X x) (hdb : (x == ("__debug__" : Str)) = false)
      (hsu : ∀ (a : Addr) (pn : List (Addr × Obj)), QB (X.suite a pn) cl W0 (b₀ :: suite) S) (r : QH X cl hds l) :
      QH X cl (.ExceptHandler (some (.Name x np)) none (b₀ :: suite) pos' :: hds) ((n, none, S) :: l)
  | consAs {n : String} {x y : Str} {i : Nat} {S : TS3} {b₀ : Stmt} {suite : List Stmt} {np pos' : Pos} {hds : List ExceptHandler} {l : List Hd3} (hn : n ∈ eNames) (hcl : ∃ a, cl n = some a) (hx : x = Str.ofString n) (hg : Gl X x) (hdb : (x == ("__debug__" : Str)) = false)
      (hi : X.N[i]? = some y) (hln : X.env.kindOf y = some .local) (hsu : ∀ (a : Addr) (pn : List (Addr × Obj)), QB (X.suite a pn) cl W0 (b₀ :: suite) S) (r : QH X cl hds l) :
      QH X cl (.ExceptHandler (some (.Name x np)) (some y) (b₀ :: suite) pos' :: hds) ((n, some i, S) :: l)
  | consTwo {n1 n2 : String} {x1 x2 : Str} {S : TS3} {b₀ : Stmt} {suite : List Stmt} {p1 p2 tp pos' : Pos} {kk : Nat} {hds : List ExceptHandler} {l : List Hd3} (hn1 : n1 ∈ eNames) (hc1 : ∃ a, cl n1 = some a) (hx1 : x1 = Str.ofString n1) (hg1 : Gl X x1) (hd1 : (x1 == ("__debug__" : Str)) = false)
      (hn2 : n2 ∈ eNames) (hc2 : ∃ a, cl n2 = some a) (hx2 : x2 = Str.ofString n2) (hg2 : Gl X x2) (hd2 : (x2 == ("__debug__" : Str)) = false) (hsu : ∀ (a : Addr) (pn : List (Addr × Obj)), QB (X.suite a pn) cl W0 (b₀ :: suite) S) (r : QH X cl hds l) :
      QH X cl (.ExceptHandler (some (.Tuple [.Name x1 p1, .Name x2 p2] kk tp)) none (b₀ :: suite) pos' :: hds) ((n1, none, S) :: (n2, none, S) :: l)
section
variable {X : Cx} {cl : Cl} {W : WX} {K : PySem.W.Frag}
def endS (sl : Option Nat) (D : Ends) : Ends := match sl with
  | none => D
  | some i => endI i D
theorem endN_le {sl : Option Nat} {H H1 : Hp} (e : Ext H H1) {D : Ends} : N3.Le (endN sl (cN K cl W H D)) (cN K cl W0 H1 (endS sl D)) := by
  cases sl with
  | none => exact ⟨fun _ _ h => cS_ext e h, fun _ _ h => cE_ext e h, fun _ _ h => cS_ext e h, fun _ _ h => cS_ext e h, fun _ _ _ h => h.elim⟩
  | some i => exact ⟨fun s m h σ H3 r a e3 => h _ H3 (r.wipe i) a (e.trans e3), fun _ _ h => cE_ext e h, fun s m h σ H3 r a e3 => h _ H3 (r.wipe i) a (e.trans e3), fun s m h σ H3 r a e3 => h _ H3 (r.wipe i) a (e.trans e3), fun _ _ _ h => h.elim⟩
theorem endN_mono {sl : Option Nat} {D D' : N3} (l : N3.Le D D') : N3.Le (endN sl D) (endN sl D') := by
  cases sl with
  | none => exact ⟨l.nx, l.rt, l.bk, l.ct, fun _ _ _ h => h⟩
  | some i => exact ⟨fun s m h => l.nx _ _ h, l.rt, fun s m h => l.bk _ _ h, fun s m h => l.ct _ _ h, fun _ _ _ h => h⟩
/-- what a reading of the clauses gives the wish -/
def Meets (X : Cx) (cl : Cl) (W : WX) (l3 : List Hd3) (w : Ends → WX) : Prop := ∀ (D : Ends) (H : Hp) (s : S3) (x : Xc) (m : Mp), dsp l3 (cN X.K cl W H D) s x m → ∀ σ c dd H', RepS X.K H' s σ → RepX X.K cl H' x c dd → Ab X.K cl H' m → Ext H H' → w D c dd σ H'
theorem dsp_c {n : String} {sl : Option Nat} {S : TS3} {r : List Hd3} {D : N3} {s : S3} {x : Xc} {m : Mp} (h : dsp ((n, sl, S) :: r) D s x m) :
    (subX x.cls n = true → ∀ a, m a = none → S (endN sl D) (setN sl s a) (mset m a (.exc x.cls x.dct))) ∧ (subX x.cls n = false → dsp r D s x m) := by
  have h : if subX x.cls n = true then ∀ a, m a = none → S (endN sl D) (setN sl s a) (mset m a (.exc x.cls x.dct)) else dsp r D s x m := h
  constructor <;> intro q
  · rwa [if_pos q] at h
  · rwa [if_neg (by rw [q]; decide)] at h
theorem c_dsp {n : String} {sl : Option Nat} {S : TS3} {r : List Hd3} {D : N3} {s : S3} {x : Xc} {m : Mp} (h1 : subX x.cls n = true → ∀ a, m a = none → S (endN sl D) (setN sl s a) (mset m a (.exc x.cls x.dct))) (h2 : subX x.cls n = false → dsp r D s x m) : dsp ((n, sl, S) :: r) D s x m := by
  show if subX x.cls n = true then _ else _
  cases q : subX x.cls n with
  | true => exact h1 q
  | false => exact h2 q
/-- the suite's reading, where its class is met -/
theorem meets_suite {sl : Option Nat} {S : TS3} {D : Ends} {H H' : Hp} {s : S3} {x : Xc} {m : Mp} {σ : L2.St} {c : Value} {dd : Option Addr} (hS : MonoS S) (hs : RepS X.K H' s σ) (rx : RepX X.K cl H' x c dd) (hm : Ab X.K cl H' m) (e : Ext H H') {a : Addr} (ha : H' a = none)
    (h : ∀ a, m a = none → S (endN sl (cN X.K cl W H D)) (setN sl s a) (mset m a (.exc x.cls x.dct))) : upS X.K cl W0 S (endS sl D) (match sl with | none => σ | some i => σ.set i (some (.ref a))) (upd H' a (exoH c dd a)) := by
  obtain ⟨C, hC, hc, rfl, rfl⟩ := id rx
  have en := Ext.new (o := exoH (.ref C) x.dct a) ha
  have hm2 : Ab X.K cl (upd H' a (exoH (.ref C) x.dct a)) (mset m a (.exc x.cls x.dct)) := hm.new ha ⟨C, hC, hc, upd_same⟩
  refine ⟨setN sl s a, _, ?_, hm2, hS _ _ _ _ (endN_le (e.trans en)) (h a (hm.free ha))⟩
  cases sl with
  | none => exact hs.mono en
  | some i => exact (hs.mono en).set (show Rep X.K _ (.ref a) (.ref a) from rfl) i
theorem qh_up (EK : ExK X.K X.mg cl) (hst : X.stack = X.env :: X.outer) (hef : X.env.frame = some X.env.locals) (hx : X.ex = []) (hN : X.N.Nodup) (tk : Takes X W) {hds : List ExceptHandler} {l3 : List Hd3} (h : QH X cl hds l3) : ∃ w, Clauses X hds w ∧ Meets X cl W l3 w := by
  induction h with
  | nil => exact ⟨_, clauses_none hst hef tk, fun D H s x m h σ c dd H' a b c e => h σ _ _ H' a b c e⟩
  | @cons n x S b₀ suite np pos' hds l hn hcl hxn hg hdb hsu r ih =>
    obtain ⟨w, i1, i2⟩ := ih
    obtain ⟨ca, e1⟩ := hcl
    refine ⟨_, clauses_class (ts := fun _ _ _ => upS X.K cl W0 S) hst hef hx ⟨hg, hdb, .inl (hxn ▸ EK.at_ n hn ca e1)⟩ (fun a cls d pn => (hsu a pn).run) i1, fun D H s x m h σ c dd H' hs rx hm e => ?_⟩
    obtain ⟨yes, no⟩ := dsp_c h
    obtain ⟨C, hC, hc, rfl, rfl⟩ := id rx
    exact ⟨_, (EK.sub x.cls hC C hc n hn ca e1).2, fun q a ha => meets_suite (sl := none) (hsu 0 []).mono hs rx hm e ha (yes q), fun q => i2 D H s x m (no q) σ _ _ H' hs rx hm e⟩
  | @consAs n x y i S b₀ suite np pos' hds l hn hcl hxn hg hdb hi hln hsu r ih =>
    obtain ⟨w, i1, i2⟩ := ih
    obtain ⟨ca, e1⟩ := hcl
    refine ⟨_, clauses_as (ts := fun _ _ _ => upS X.K cl W0 S) hst hef hx hN hi hln ⟨hg, hdb, .inl (hxn ▸ EK.at_ n hn ca e1)⟩ (fun a cls d pn => (hsu a pn).run) i1, fun D H s x m h σ c dd H' hs rx hm e => ?_⟩
    obtain ⟨yes, no⟩ := dsp_c h
    obtain ⟨C, hC, hc, rfl, rfl⟩ := id rx
    exact ⟨_, (EK.sub x.cls hC C hc n hn ca e1).2, fun q a ha => meets_suite (sl := some i) (hsu 0 []).mono hs rx hm e ha (yes q), fun q => i2 D H s x m (no q) σ _ _ H' hs rx hm e⟩
  | @consTwo n1 n2 x1 x2 S b₀ suite p1 p2 tp pos' kk hds l hn1 hc1 hx1 hg1 hd1 hn2 hc2 hx2 hg2 hd2 hsu r ih =>
    obtain ⟨w, i1, i2⟩ := ih
    obtain ⟨a1, e1⟩ := hc1
    obtain ⟨a2, e2⟩ := hc2
    refine ⟨_, clauses_two (ts := fun _ _ _ => upS X.K cl W0 S) hst hef hx ⟨hg1, hd1, .inl (hx1 ▸ EK.at_ n1 hn1 a1 e1)⟩ ⟨hg2, hd2, .inl (hx2 ▸ EK.at_ n2 hn2 a2 e2)⟩ (fun a cls d pn => (hsu a pn).run) i1, fun D H s x m h σ c dd H' hs rx hm e => ?_⟩
    obtain ⟨yes1, no1⟩ := dsp_c h
    obtain ⟨C, hC, hc, rfl, rfl⟩ := id rx
    have f1 := (EK.sub x.cls hC C hc n1 hn1 a1 e1).2
    have f2 := (EK.sub x.cls hC C hc n2 hn2 a2 e2).2
    refine ⟨subX x.cls n1 || (subX x.cls n2 || false), by simp only [PySem.W.exmAny, f1, f2], fun q a ha => ?_, fun q => ?_⟩ <;> cases q1 : subX x.cls n1 <;> cases q2 : subX x.cls n2 <;> rw [q1, q2] at q <;> first | cases q | skip
    · exact meets_suite (sl := none) (hsu 0 []).mono hs rx hm e ha ((dsp_c (no1 q1)).1 q2)
    · exact meets_suite (sl := none) (hsu 0 []).mono hs rx hm e ha (yes1 q1)
    · exact meets_suite (sl := none) (hsu 0 []).mono hs rx hm e ha (yes1 q1)
    · exact i2 D H s x m ((dsp_c (no1 q1)).2 q2) σ _ _ H' hs rx hm e
theorem mono_dsp {hds : List ExceptHandler} {l3 : List Hd3} (h : QH X cl hds l3) {D D' : N3} (l : N3.Le D D') : ∀ s x m, dsp l3 D s x m → dsp l3 D' s x m := by
  induction h with
  | nil => exact l.ex
  | cons hn hcl hx hg hdb hsu r ih => exact fun s x m h => c_dsp (fun q a ha => (hsu a []).mono _ _ _ _ (endN_mono l) ((dsp_c h).1 q a ha)) fun q => ih s x m ((dsp_c h).2 q)
  | consAs hn hcl hx hg hdb hi hln hsu r ih => exact fun s x m h => c_dsp (fun q a ha => (hsu a []).mono _ _ _ _ (endN_mono l) ((dsp_c h).1 q a ha)) fun q => ih s x m ((dsp_c h).2 q)
  | consTwo hn1 hc1 hx1 hg1 hd1 hn2 hc2 hx2 hg2 hd2 hsu r ih =>
    exact fun s x m h => c_dsp (fun q a ha => (hsu a []).mono _ _ _ _ (endN_mono l) ((dsp_c h).1 q a ha)) fun q => c_dsp (fun q2 a ha => (hsu a []).mono _ _ _ _ (endN_mono l) ((dsp_c ((dsp_c h).2 q)).1 q2 a ha)) fun q2 => ih s x m ((dsp_c ((dsp_c h).2 q)).2 q2)
theorem qs_try {body : List Stmt} {h₀ : ExceptHandler} {hds : List ExceptHandler} {l3 : List Hd3} {pos : Pos} {B : TS3} (EK : ExK X.K X.mg cl) (hs : X.stack = X.env :: X.outer) (hf : X.env.frame = some X.env.locals) (hex : X.ex = []) (hN : X.N.Nodup) (tk : Takes X W) (pw : PassesOwn (model X.prog X.w) X.A X.env X.xe)
    (hb : ∀ (W : WX) (pn : List (Addr × Obj)) (xe : Value → Shared → Prop), Takes (X.tr pn xe) W → PassesOwn (model X.prog X.w) X.A X.env xe → QB (X.tr pn xe) cl W body B) (hh : QH X cl (h₀ :: hds) l3) : QS X cl W (.Try body (h₀ :: hds) [] [] pos) (sTry B l3) := by
  obtain ⟨w, k1, k2⟩ := qh_up EK hs hf hex hN tk hh
  have mB : MonoS B := (hb (fun _ _ _ _ => False) X.pn X.xe takes_none5 pw).mono
  refine ⟨fun s m D D' le q => mB s m { D with ex := dsp l3 D } { D' with ex := dsp l3 D' } ⟨le.nx, le.rt, le.bk, le.ct, mono_dsp hh le⟩ q, ?_⟩
  refine PS.imp (try_clauses (tb := fun W => upS X.K cl W B) hs hf (fun W pn xe t p => (hb W pn xe t p).run) k1) fun D σ H ⟨s, m, h1, h2, q⟩ => ⟨s, m, h1, h2, ?_⟩
  exact mB s m { (cN X.K cl W H D) with ex := dsp l3 (cN X.K cl W H D) } (cN X.K cl (w D) H D) ⟨fun _ _ h => h, fun _ _ h => h, fun _ _ h => h, fun _ _ h => h, fun s x m h σ c dd H' a b e f => k2 D H s x m h σ c dd H' a b e f⟩ q
/-! ### raise -/
def sRs (n : String) : TS3 := fun D s m => D.ex s ⟨n, none⟩ m
/-! ### raise of an exception without fields -/
theorem qs_raise {n : String} {x msg : Str} {j : Nat} {p p2 p3 pos : Pos} (EK : ExK X.K X.mg cl) (tk : Takes X W) (hc : X.calm = true) (hn : n ∈ eNames) (hcl : ∃ a, cl n = some a) (ho : n ≠ "Clash") (hx : x = Str.ofString n) (hg : Gl X x) (hdb : (x == ("__debug__" : Str)) = false) :
    QS X cl W (.Raise (some (.Call (.Name x p) [.Constant (.str msg) j p2] [] p3)) none pos) (sRs n) := by
  obtain ⟨ca, e1⟩ := hcl
  have e2 := EK.at_ n hn ca e1
  have B := EK.ok n hn ca e1
  refine ⟨fun s m D D' le q => le.ex _ _ _ q, ?_⟩
  refine PS.imp (ps_raise hc tk (pmk_own PySem.F.excBase_ValueError (EK.own n hn ho ca e1) (hx ▸ e2) B.kp (raises_own B.xf.exC B.ty) hg hdb)) fun D σ H ⟨s, m, h1, h2, q⟩ => ?_
  exact q σ _ _ H h1 ⟨ca, hn, e1, rfl, rfl⟩ h2 (Ext.refl H)
end
end PV

/-! Things as texts. -/
namespace PV
open PySem L2 PyProof.Rows
open TL (numL numL_lt numL_step numL_digits numL_ne numL_free numL_val numL_inj numL_len)
/-- the signs of a whole number -/
def intL (i : Int) : List Nat := if i < 0 then 45 :: numL i.natAbs else numL i.natAbs
theorem ofS_app (a b : String) : Str.ofString (a ++ b) = Str.ofString a ++ Str.ofString b := by
  refine TL.ext_tl ?_
  rw [TL.tl_append, TL.tl_ofString, TL.tl_ofString, TL.tl_ofString, String.toList_append, List.map_append]
theorem str_int (i : Int) : (Str.ofString (toString i)).cps.toList = intL i := by
  unfold intL
  cases i with
  | ofNat n =>
    rw [if_neg (by simp)]
    exact TL.tl_num n
  | negSucc n =>
    rw [if_pos (Int.negSucc_lt_zero n)]
    have e : toString (Int.negSucc n) = "-" ++ toString ((n + 1 : Nat) : Int) := rfl
    rw [e, ofS_app]
    show TL.tl (Str.ofString "-" ++ Str.ofString (toString ((n + 1 : Nat) : Int))) = _
    rw [TL.tl_append, TL.tl_num]
    rfl
theorem intL_free {i : Int} {s : Nat} (h : (s < 48 ∨ 57 < s) ∧ s ≠ 45) : s ∉ intL i := by
  unfold intL
  split
  · intro q
    rcases List.mem_cons.mp q with q | q
    · exact h.2 q
    · exact numL_free h.1 q
  · exact numL_free h.1
theorem intL_nat (n : Nat) : intL (n : Int) = numL n := by
  unfold intL
  rw [if_neg (by omega)]
  rfl
theorem numL_no45 {n : Nat} {l : List Nat} (h : numL n = 45 :: l) : False := by
  have := numL_digits n 45 (by rw [h]; exact List.mem_cons_self ..)
  omega
theorem intL_inj {i j : Int} (h : intL i = intL j) : i = j := by
  unfold intL at h
  split at h <;> split at h
  · have := numL_inj (List.cons.inj h).2; omega
  · exact (numL_no45 h.symm).elim
  · exact (numL_no45 h).elim
  · have := numL_inj h; omega
mutual
/-- the text that writes a thing -/
def writeD : D → List Nat
  | .non => [111]
  | .int i => 110 :: (intL i ++ [59])
  | .str z => 116 :: (numL z.cps.toList.length ++ 58 :: z.cps.toList)
  | .tup l => 40 :: (writesD l ++ [41])
  | .bl _ => [111] | .ref _ => [111] | .ty _ => [111]
def writesD : List D → List Nat
  | [] => []
  | d :: l => writeD d ++ writesD l
end
theorem writesD_app {l r : List D} : writesD (l ++ r) = writesD l ++ writesD r := by
  induction l with
  | nil => rfl
  | cons d l ih => simp [writesD, ih]
theorem write_head (d : D) : ∃ c t, writeD d = c :: t ∧ c ≠ 41 := by
  cases d <;> exact ⟨_, _, by unfold writeD; rfl, by decide⟩
theorem cut_at {x : Nat} : ∀ {A B r r' : List Nat}, x ∉ A → x ∉ B → A ++ x :: r = B ++ x :: r' → A = B ∧ r = r'
  | [], [], _, _, _, _, h => ⟨rfl, (List.cons.inj h).2⟩
  | [], b :: B, _, _, _, hb, h => absurd (show x ∈ b :: B by rw [(List.cons.inj h).1]; exact List.mem_cons_self ..) hb
  | a :: A, [], _, _, ha, _, h => absurd (show x ∈ a :: A by rw [← (List.cons.inj h).1]; exact List.mem_cons_self ..) ha
  | a :: A, b :: B, _, _, ha, hb, h => by
    obtain ⟨e, h⟩ := List.cons.inj h
    obtain ⟨e2, e3⟩ := cut_at (fun z => ha (List.mem_cons_of_mem _ z)) (fun z => hb (List.mem_cons_of_mem _ z)) h
    exact ⟨by rw [e, e2], e3⟩
theorem writes_uniq {n : Nat} (ih : ∀ {a b : D} {r r' : List Nat}, Fine n a → Fine n b → writeD a ++ r = writeD b ++ r' → a = b ∧ r = r') : ∀ {l l' : List D} {r r' : List Nat}, (∀ d ∈ l, Fine n d) → (∀ d ∈ l', Fine n d) → writesD l ++ 41 :: r = writesD l' ++ 41 :: r' → l = l' ∧ r = r'
  | [], [], _, _, _, _, h => ⟨rfl, (List.cons.inj h).2⟩
  | [], d :: l', _, _, _, _, h => by
    obtain ⟨c, t, e, ne⟩ := write_head d
    unfold writesD at h
    rw [e] at h
    exact absurd (List.cons.inj h).1.symm ne
  | d :: l, [], _, _, _, _, h => by
    obtain ⟨c, t, e, ne⟩ := write_head d
    unfold writesD at h
    rw [e] at h
    exact absurd (List.cons.inj h).1 ne
  | a :: l, b :: l', _, _, h1, h2, h => by
    unfold writesD at h
    rw [List.append_assoc, List.append_assoc] at h
    obtain ⟨e, h⟩ := ih (h1 a (List.mem_cons_self ..)) (h2 b (List.mem_cons_self ..)) h
    obtain ⟨e2, e3⟩ := writes_uniq ih (fun e he => h1 e (List.mem_cons_of_mem _ he)) (fun e he => h2 e (List.mem_cons_of_mem _ he)) h
    exact ⟨by rw [e, e2], e3⟩
theorem write_flat {n : Nat} {a b : D} {r r' : List Nat} (h1 : Fine n a) (h2 : Fine n b) (ht : ∀ l l', a = .tup l → b = .tup l' → a = b ∧ r = r') (h : writeD a ++ r = writeD b ++ r') : a = b ∧ r = r' := by
  cases a <;> cases b <;> first
    | (cases n <;> exact (show False from h1).elim)
    | (cases n <;> exact (show False from h2).elim)
    | (simp [writeD] at h; done)
    | exact ⟨rfl, (List.cons.inj h).2⟩
    | exact ht _ _ rfl rfl
    | skip
  · rename_i i j
    have h : intL i ++ 59 :: r = intL j ++ 59 :: r' := by simpa [writeD] using h
    obtain ⟨e, e2⟩ := cut_at (intL_free ⟨by decide, by decide⟩) (intL_free ⟨by decide, by decide⟩) h
    exact ⟨by rw [intL_inj e], e2⟩
  · rename_i i j
    have h : numL i.cps.toList.length ++ 58 :: (i.cps.toList ++ r) = numL j.cps.toList.length ++ 58 :: (j.cps.toList ++ r') := by simpa [writeD] using h
    obtain ⟨e, e2⟩ := cut_at (numL_free (by decide)) (numL_free (by decide)) h
    have e := numL_inj e
    obtain ⟨e3, e4⟩ := List.append_inj e2 e
    exact ⟨by rw [PySem.W.str_of_cps e3], e4⟩
theorem write_uniq0 : ∀ {n : Nat} {a b : D} {r r' : List Nat}, Fine n a → Fine n b → writeD a ++ r = writeD b ++ r' → a = b ∧ r = r' := by
  intro n
  induction n with
  | zero => intro a b r r' h1 h2 h; exact write_flat h1 h2 (fun l l' e _ => by subst e; exact (show False from h1).elim) h
  | succ n ih =>
    intro a b r r' h1 h2 h
    refine write_flat h1 h2 (fun l l' e e' => ?_) h
    subst e e'
    have h : writesD l ++ 41 :: r = writesD l' ++ 41 :: r' := by simpa [writeD] using h
    obtain ⟨e, e2⟩ := writes_uniq ih h1.2 h2.2 h
    exact ⟨by rw [e], e2⟩
theorem write_uniq {n k : Nat} {a b : D} {r r' : List Nat} (h1 : Fine n a) (h2 : Fine k b) (h : writeD a ++ r = writeD b ++ r') : a = b ∧ r = r' :=
  write_uniq0 (h1.le (Nat.le_max_left n k)) (h2.le (Nat.le_max_right n k)) h
theorem write_pre {n k : Nat} {a b : D} {w : List Nat} (h1 : Fine n a) (h2 : Fine k b) (p1 : writeD a <+: w) (p2 : writeD b <+: w) : a = b := by
  obtain ⟨r, e⟩ := p1
  obtain ⟨r', e'⟩ := p2
  exact (write_uniq h1 h2 (e.trans e'.symm)).1
/-! ### how long -/
theorem num_len {i : Int} (h : NumOk i) : (intL i).length ≤ 32 := by
  unfold NumOk at h
  have : (numL i.natAbs).length ≤ 31 := numL_len (k := 31) (by decide) (by omega)
  unfold intL
  split
  · simp; omega
  · omega
theorem writes_len {n : Nat} (ih : ∀ d, Fine n d → (writeD d).length ≤ 65 * d.sz) : ∀ {l : List D}, (∀ d ∈ l, Fine n d) → (writesD l).length ≤ 65 * D.szs l
  | [], _ => by simp [writesD]
  | d :: l, h => by
    have h1 := ih d (h d (List.mem_cons_self ..))
    have h2 := writes_len ih fun e he => h e (List.mem_cons_of_mem _ he)
    simp only [writesD, List.length_append, D.szs]
    omega
theorem flat_len {n : Nat} {d : D} (h : Fine n d) (ht : ∀ l, d = .tup l → (writeD d).length ≤ 65 * d.sz) : (writeD d).length ≤ 65 * d.sz := by
  cases d with
  | tup l => exact ht l rfl
  | int i => have := num_len h.num; simp [writeD, D.sz]; omega
  | str z =>
    have h1 := h.txt.1
    have : (numL z.cps.toList.length).length ≤ 2 := numL_len (k := 2) (by decide) (by omega)
    simp [writeD, D.sz] at *; omega
  | _ => simp [writeD, D.sz]
theorem Fine.write_len : ∀ {n : Nat} {d : D}, Fine n d → (writeD d).length ≤ 65 * d.sz := by
  intro n
  induction n with
  | zero => intro d h; exact flat_len h fun l e => by subst e; cases h
  | succ n ih =>
    intro d h
    refine flat_len h fun l e => ?_
    subst e
    have := writes_len (n := n) (fun d hd => ih hd) h.2
    simp only [writeD, D.sz, List.length_cons, List.length_append, List.length_nil]
    omega
/-! ### figures -/
theorem numL_head {n : Nat} {r : List Nat} (h : numL n = 48 :: r) : r = [] := by
  have hd := numL_digits n
  have hv := numL_val n
  rw [h] at hd hv
  by_cases h9 : n < 10
  · rw [numL_lt h9] at h
    exact (List.cons.inj h).2.symm
  · exfalso
    have key : ∀ m, 10 ≤ m → ∃ c t, numL m = c :: t ∧ 49 ≤ c := by
      intro m
      induction m using Nat.strongRecOn with
      | _ m ih =>
        intro hm
        rw [numL_step hm]
        by_cases h1 : 10 ≤ m / 10
        · obtain ⟨c, t, e, hc⟩ := ih (m / 10) (by omega) h1
          exact ⟨c, t ++ [48 + m % 10], by rw [e]; rfl, hc⟩
        · rw [numL_lt (by omega)]
          exact ⟨_, _, rfl, by omega⟩
    obtain ⟨c, t, e, hc⟩ := key n (by omega)
    rw [h] at e
    have := (List.cons.inj e).1
    omega
theorem val_from : ∀ (cs : List Nat) (a : Nat), NumText.AllDigits cs → cs.foldl (fun acc c => acc * 10 + (c - 48)) a < (a + 1) * 10 ^ cs.length
  | [], a, _ => by simp
  | c :: cs, a, h => by
    have d : c - 48 < 10 := by have := h.head; omega
    calc _ < (a * 10 + (c - 48) + 1) * 10 ^ cs.length := val_from cs _ h.tail
      _ ≤ (a + 1) * 10 * 10 ^ cs.length := Nat.mul_le_mul_right _ (by omega)
      _ = (a + 1) * 10 ^ (cs.length + 1) := by rw [Nat.mul_assoc, Nat.pow_succ, Nat.mul_comm 10]
theorem val_lt {cs : List Nat} (h : NumText.AllDigits cs) : NumText.digitsVal cs < 10 ^ cs.length := by
  have q := val_from cs 0 h
  rwa [Nat.zero_add, Nat.one_mul] at q
theorem chars_back {l : List Nat} (h : NumText.AllDigits l) : (l.map Char.ofNat).map Char.toNat = l := by
  rw [List.map_map]
  have : l.map (Char.toNat ∘ Char.ofNat) = l.map id := by
    refine List.map_congr_left fun c hc => ?_
    have := h c hc
    show (Char.ofNat c).toNat = c
    obtain ⟨d, rfl⟩ : ∃ d, c = 48 + d := ⟨c - 48, by omega⟩
    have : ∀ d, d < 10 → (Char.ofNat (48 + d)).toNat = 48 + d := by decide
    exact this d (by omega)
  rw [this, List.map_id]
/-- figures without a nought ahead are those of their number -/
theorem numL_of {cs : List Nat} (h : NumText.AllDigits cs) (hne : cs ≠ []) (h0 : ∀ r, cs = 48 :: r → r = []) : numL (NumText.digitsVal cs) = cs := by
  obtain ⟨c, r, rfl⟩ : ∃ c r, cs = c :: r := by cases cs with
    | nil => exact absurd rfl hne
    | cons c r => exact ⟨c, r, rfl⟩
  have := NumText.toDigits_digitsVal r.length (c :: r) rfl h (by
    by_cases e : c = 48
    · subst e; exact .inl (by rw [h0 r rfl]; rfl)
    · have := h.head; exact .inr ⟨c, r, rfl, by omega⟩)
  unfold numL
  rw [this, chars_back h]
end PV

/-! More steps: exceptions, texts. -/
namespace PV
open PySem L2 PyProof.Rows
section
variable {T : Tb} {L i j : Nat} {s : S3} {m : Mp} {k : K3} {x : X3} {d u v : D} {A B C : TE3} {R : TA3} {nx bk ct : S3 → Mp → Prop} {rt : K3} {ex : S3 → X3} {t t' : TS3} {c c' : TT3} {kb : Bool → Mp → Prop} {P Q : Prop} {p q : Addr} {l r : List D}
theorem x_rs {n : String} (h : ex s ⟨n, none⟩ m) : sRs n ⟨nx, rt, bk, ct, ex⟩ s m := h
theorem x_try {hs : List Hd3} (h : t ⟨nx, rt, bk, ct, dsp hs ⟨nx, rt, bk, ct, ex⟩⟩ s m) : sTry t hs ⟨nx, rt, bk, ct, ex⟩ s m := h
/-- a clause that takes it -/
theorem x_dsY {n : String} {e : Xc} {hs : List Hd3} (h0 : subX e.cls n = true) (h : ∀ a, m a = none → t ⟨nx, rt, bk, ct, fun _ => noX⟩ s (mset m a (.exc e.cls e.dct))) : dsp ((n, none, t) :: hs) ⟨nx, rt, bk, ct, ex⟩ s e m := by
  show if subX e.cls n = true then _ else _
  rw [if_pos h0]; exact h
theorem x_dsYA {n : String} {e : Xc} {hs : List Hd3} (h0 : subX e.cls n = true) (h : ∀ a, m a = none → t ⟨fun s m => nx (s.set i none) m, rt, fun s m => bk (s.set i none) m, fun s m => ct (s.set i none) m, fun _ => noX⟩ (s.set i (some (.ref a))) (mset m a (.exc e.cls e.dct))) :
    dsp ((n, some i, t) :: hs) ⟨nx, rt, bk, ct, ex⟩ s e m := by
  show if subX e.cls n = true then _ else _
  rw [if_pos h0]; exact h
theorem x_dsN {n : String} {o : Option Nat} {e : Xc} {hs : List Hd3} (h0 : subX e.cls n = false) (h : dsp hs ⟨nx, rt, bk, ct, ex⟩ s e m) : dsp ((n, o, t) :: hs) ⟨nx, rt, bk, ct, ex⟩ s e m := by
  show if subX e.cls n = true then _ else _
  rw [if_neg (by rw [h0]; decide)]; exact h
theorem x_ds0 {e : Xc} (h : ex s e m) : dsp [] ⟨nx, rt, bk, ct, ex⟩ s e m := h
theorem x_ise {ns : List String} (h : A s m (fun d m1 => isED d ns m1 k) x) : eIsE A ns s m k x := h
theorem xf_isE {C : String} {dc : Option Addr} {ns : List String} (h1 : m p = some (.exc C dc)) (h2 : ∀ dd, dc = some dd → ∃ fs, m dd = some (.xd fs)) (h : k (.bl (ns.any (subX C))) m) : isED (.ref p) ns m k := .inl ⟨p, C, dc, rfl, h1, h2, h⟩
theorem xf_isE0 {C : String} {ns : List String} (h1 : m p = some (.exc C none)) (h : k (.bl (ns.any (subX C))) m) : isED (.ref p) ns m k := .inl ⟨p, C, none, rfl, h1, fun _ e => (by cases e), h⟩
theorem xf_isEN {ns : List String} (h : k (.bl false) m) : isED .non ns m k := .inr ⟨rfl, h⟩
theorem xf_join {z : Str} {ys : List Str} (h1 : RL m p (ys.map D.str)) (h0 : (ys.map (·.length)).sum + ys.length * z.length ≤ 1000000) (h : k (.str (Txt.join z ys)) m) : fJoin (.str z) [.ref p] m k :=
  ⟨z, ys, rfl, .inl ⟨p, rfl, h1⟩, Nat.le_trans h0 (by decide), h⟩
theorem xf_inS {z : Str} {c : Nat} (h : k (.bl (decide (c ∈ z.cps.toList))) m) : fIn false (.str ⟨#[c]⟩) (.str z) m k := .inr (.inl ⟨_, _, rfl, rfl, by rw [PySem.StrLaws.found_one]; exact h⟩)
theorem xf_ninS {z : Str} {c : Nat} (h : k (.bl (!decide (c ∈ z.cps.toList))) m) : fIn true (.str ⟨#[c]⟩) (.str z) m k := .inr (.inl ⟨_, _, rfl, rfl, by rw [PySem.StrLaws.found_one]; exact h⟩)
end
/-! ### pieces of texts -/
theorem drop_min {α : Type} {l : List α} {a : Nat} : l.drop (min a l.length) = l.drop a := by
  by_cases h : a ≤ l.length
  · rw [Nat.min_eq_left h]
  · rw [Nat.min_eq_right (by omega), List.drop_eq_nil_of_le (Nat.le_refl _), List.drop_eq_nil_of_le (by omega)]
theorem cutS_nat {z : Str} {a b : Nat} : (cutS z (some (a : Int)) (some (b : Int))).cps.toList = (z.cps.toList.drop a).take (b - a) := by
  rw [cutS_list, HT.sIx_nat, HT.sIx_nat, str_len, drop_min]
  by_cases h : a ≤ z.cps.toList.length
  · by_cases h2 : b ≤ z.cps.toList.length
    · rw [Nat.min_eq_left h, Nat.min_eq_left h2]
    · rw [Nat.min_eq_left h, Nat.min_eq_right (by omega)]
      have : (z.cps.toList.drop a).length = z.cps.toList.length - a := List.length_drop ..
      rw [List.take_of_length_le (by omega), List.take_of_length_le (by omega)]
  · have : z.cps.toList.drop a = [] := List.drop_eq_nil_of_le (by omega)
    rw [this]; simp
theorem str_eq {a b : Str} : a = b ↔ a.cps.toList = b.cps.toList := ⟨fun h => by rw [h], fun h => PySem.W.str_of_cps h⟩
/-- the sign at a place -/
theorem sign_at {z : Str} {a c : Nat} : cutS z (some (a : Int)) (some ((a : Int) + 1)) = ⟨#[c]⟩ ↔ z.cps.toList[a]? = some c := by
  rw [show ((a : Int) + 1) = ((a + 1 : Nat) : Int) by omega, str_eq, cutS_nat]
  show (z.cps.toList.drop a).take (a + 1 - a) = [c] ↔ _
  rw [show a + 1 - a = 1 by omega]
  cases e : z.cps.toList[a]? with
  | none =>
    have := List.getElem?_eq_none_iff.mp e
    rw [List.drop_eq_nil_of_le this]; simp
  | some b =>
    obtain ⟨h1, h2⟩ := List.getElem?_eq_some_iff.mp e
    rw [List.drop_eq_getElem_cons h1, h2]; simp
theorem sign_none {z : Str} {a : Nat} (h : z.cps.toList.length ≤ a) {c : Nat} : cutS z (some (a : Int)) (some ((a : Int) + 1)) ≠ ⟨#[c]⟩ := by
  intro q
  rw [sign_at, List.getElem?_eq_none h] at q; cases q
theorem ofS1 (c : Char) : Str.ofString (String.singleton c) = ⟨#[c.toNat]⟩ := by
  refine TL.ext_tl ?_
  rw [TL.tl_ofString, String.toList_singleton]; rfl
theorem drop_get {α : Type} {l : List α} {a : Nat} {c : α} (h : l[a]? = some c) : l.drop a = c :: l.drop (a + 1) := by
  obtain ⟨h1, h2⟩ := List.getElem?_eq_some_iff.mp h
  rw [List.drop_eq_getElem_cons h1, h2]
theorem get_drop {α : Type} {l r : List α} {a : Nat} {c : α} (h : l.drop a = c :: r) : l[a]? = some c := by
  have : (l.drop a)[0]? = some c := by rw [h]; rfl
  rwa [List.getElem?_drop, Nat.add_zero] at this
theorem pre_drop {α : Type} {w p r : List α} {a : Nat} (h : p ++ r = w.drop a) : w.drop (a + p.length) = r := by
  rw [← List.drop_drop, ← h, List.drop_left]
theorem pre_le {α : Type} {w p r : List α} {a : Nat} (ha : a ≤ w.length) (h : p ++ r = w.drop a) : a + p.length ≤ w.length := by
  have := congrArg List.length h
  rw [List.length_append, List.length_drop] at this
  omega
theorem atI_of_nat {α : Type} {l : List α} {n : Nat} (h : n < l.length) : atI l (n : Int) = l[n]? := by
  unfold atI ixN
  rw [if_pos (by omega), if_pos (by omega)]
  rfl
open Classical in
theorem xf_eqR {n : Nat} {a : D} {m : Mp} {k : K3} (h1 : Fine n a) (hn : n ≤ 64) (h : k (.bl true) m) : fEq a a m k := xf_eqF h1 h1 hn (by rw [decide_eq_true rfl]; exact h)
end PV

/-! Dicts by what they hold; seals reckoned on. -/
namespace PV
open PySem L2 PyProof.Rows
section
variable {κ : Type} [DecidableEq κ]
theorem getD_app {l r : List (κ × D)} {k : κ} : getD (l ++ r) k = (getD l k).or (getD r k) := by
  induction l with
  | nil => rfl
  | cons p l ih =>
    by_cases e : p.1 = k
    · rw [List.cons_append, getD_pos e, getD_pos e]; rfl
    · rw [List.cons_append, getD_neg e, getD_neg e, ih]
theorem getD_none {l : List (κ × D)} {k : κ} : getD l k = none ↔ (l.any fun kv => decide (kv.1 = k)) = false := by
  induction l with
  | nil => simp [getD_nil]
  | cons p l ih =>
    by_cases e : p.1 = k
    · rw [getD_pos e]; simp [e]
    · rw [getD_neg e, ih]; simp [e]
theorem getD_map {l : List (κ × D)} {k k' : κ} {v : D} : getD (l.map fun kv => if kv.1 = k then (kv.1, v) else kv) k' = if k' = k then (getD l k).map (fun _ => v) else getD l k' := by
  induction l with
  | nil => simp [getD_nil]
  | cons p l ih =>
    rw [List.map_cons]
    by_cases e : p.1 = k
    · rw [if_pos e]
      by_cases h : p.1 = k'
      · have hk : k' = k := h.symm.trans e
        rw [getD_pos (p := (p.1, v)) h, if_pos hk, getD_pos e]; rfl
      · rw [getD_neg (p := (p.1, v)) h, ih]
        have hk : ¬ k' = k := fun z => h (e.trans z.symm)
        rw [if_neg hk, if_neg hk, getD_neg h]
    · rw [if_neg e]
      by_cases h : p.1 = k'
      · have hk : ¬ k' = k := fun z => e (h.trans z)
        rw [getD_pos h, if_neg hk, getD_pos h]
      · rw [getD_neg h, ih]
        by_cases hk : k' = k
        · rw [if_pos hk, if_pos hk, getD_neg e]
        · rw [if_neg hk, if_neg hk, getD_neg h]
theorem getD_put {l : List (κ × D)} {k k' : κ} {v : D} : getD (putD l k v) k' = if k' = k then some v else getD l k' := by
  unfold putD
  by_cases h : (l.any fun kv => decide (kv.1 = k)) = true
  · rw [if_pos h, getD_map]
    by_cases hk : k' = k
    · rw [if_pos hk, if_pos hk]
      cases e : getD l k with
      | none => rw [getD_none.mp e] at h; cases h
      | some d => rfl
    · rw [if_neg hk, if_neg hk]
  · rw [if_neg h, getD_app]
    have h' : getD l k = none := getD_none.mpr (by cases q : (l.any fun kv => decide (kv.1 = k)) with
      | true => exact absurd q h
      | false => rfl)
    by_cases hk : k' = k
    · subst hk
      rw [if_pos rfl, h', getD_pos (p := (k', v)) rfl]; rfl
    · rw [if_neg hk, getD_neg (p := (k, v)) (fun z => hk z.symm), getD_nil]
      cases getD l k' <;> rfl
theorem len_put {l : List (κ × D)} {k : κ} {v : D} : (putD l k v).length ≤ l.length + 1 := by
  unfold putD
  split
  · rw [List.length_map]; omega
  · rw [List.length_append]; exact Nat.le_refl _
end
theorem xf_neB {a b : Bool} {m : Mp} {k : K3} (h : k (.bl (!(a == b))) m) : fNe (.bl a) (.bl b) m k := ⟨_, _, .bl a, .bl b, peq_l (Nat.zero_le _), h⟩
theorem xf_dinI0 {p : Addr} {m : Mp} {k : K3} {kvs : List (Key × D)} {n : Int} (h1 : m p = some (.dK kvs) ∨ m p = some (.rdK kvs)) (h : k (.bl (getD kvs (.inl n)).isSome) m) : fIn false (.int n) (.ref p) m k := xf_dinI h1 h
theorem xf_dinI1 {p : Addr} {m : Mp} {k : K3} {kvs : List (Key × D)} {n : Int} (h1 : m p = some (.dK kvs) ∨ m p = some (.rdK kvs)) (h : k (.bl (!(getD kvs (.inl n)).isSome)) m) : fIn true (.int n) (.ref p) m k := xf_dinI h1 h
theorem xf_dinS0 {p : Addr} {m : Mp} {k : K3} {kvs : List (Key × D)} {n : Str} (h1 : m p = some (.dK kvs) ∨ m p = some (.rdK kvs)) (h : k (.bl (getD kvs (.inr n)).isSome) m) : fIn false (.str n) (.ref p) m k := xf_dinS h1 h
theorem xf_dinS1 {p : Addr} {m : Mp} {k : K3} {kvs : List (Key × D)} {n : Str} (h1 : m p = some (.dK kvs) ∨ m p = some (.rdK kvs)) (h : k (.bl (!(getD kvs (.inr n)).isSome)) m) : fIn true (.str n) (.ref p) m k := xf_dinS h1 h
/-! ### seals reckoned on -/
def sB : Int := 1234567890123456789
def sM : Int := 2305843009213693951
theorem sealOn_nil {a : Int} : sealOn a [] = a := rfl
theorem sealOn_cons {a c : Int} {l : List Int} : sealOn a (c :: l) = sealOn ((a * sB + c) % sM) l := rfl
theorem seal_diff : ∀ (l : List Int) (a b : Int), ∃ t, sealOn a l = sealOn b l + (a - b) * sB ^ l.length + sM * t
  | [], a, b => ⟨0, by rw [sealOn_nil, sealOn_nil, List.length_nil, Int.pow_zero]; omega⟩
  | c :: l, a, b => by
    obtain ⟨t, ht⟩ := seal_diff l ((a * sB + c) % sM) ((b * sB + c) % sM)
    rw [sealOn_cons, sealOn_cons, ht, List.length_cons, Int.pow_succ]
    have h1 := Int.mul_ediv_add_emod (a * sB + c) sM
    have h2 := Int.mul_ediv_add_emod (b * sB + c) sM
    generalize (a * sB + c) % sM = x at *
    generalize (b * sB + c) % sM = y at *
    generalize (a * sB + c) / sM = p at *
    generalize (b * sB + c) / sM = q at *
    have e : x - y = (a - b) * sB - sM * (p - q) := by rw [Int.sub_mul, Int.mul_sub]; omega
    refine ⟨t - (p - q) * sB ^ l.length, ?_⟩
    have h5 : ((a - b) * sB - sM * (p - q)) * sB ^ l.length = (a - b) * (sB ^ l.length * sB) - sM * ((p - q) * sB ^ l.length) := by
      rw [Int.sub_mul, Int.mul_assoc, Int.mul_assoc, Int.mul_comm sB]
    rw [e, h5, Int.mul_sub]
    omega
/-- n times by the base -/
def mulOn (a : Int) : Nat → Int
  | 0 => a
  | n + 1 => mulOn a n * sB % sM
theorem mulOn_is {a : Int} (h0 : 0 ≤ a) (h1 : a < sM) (n : Nat) : 0 ≤ mulOn a n ∧ mulOn a n < sM ∧ ∃ t, mulOn a n = a * sB ^ n + sM * t := by
  induction n with
  | zero => exact ⟨h0, h1, 0, by rw [Int.pow_zero]; show a = _; omega⟩
  | succ n ih =>
    obtain ⟨i1, i2, t, i3⟩ := ih
    refine ⟨Int.emod_nonneg _ (by decide), Int.emod_lt_of_pos _ (by decide), t * sB - mulOn a n * sB / sM, ?_⟩
    have h1 := Int.mul_ediv_add_emod (mulOn a n * sB) sM
    have h2 : mulOn a n * sB = a * sB ^ (n + 1) + sM * (t * sB) := by
      conv => lhs; rw [i3, Int.add_mul, Int.mul_assoc, ← Int.pow_succ, Int.mul_assoc]
    show mulOn a n * sB % sM = _
    generalize mulOn a n * sB / sM = q at *
    rw [Int.mul_sub]
    omega
theorem seal_grown {a b : Int} (ha0 : 0 ≤ a) (ha1 : a < sM) (hb0 : 0 ≤ b) (hb1 : b < sM) (l : List Int) : (sealOn a l - mulOn a l.length + mulOn b l.length) % sM = sealOn b l := by
  obtain ⟨_, _, t1, h1⟩ := mulOn_is ha0 ha1 l.length
  obtain ⟨_, _, t2, h2⟩ := mulOn_is hb0 hb1 l.length
  obtain ⟨t3, h3⟩ := seal_diff l a b
  have hn : 0 ≤ sealOn b l ∧ sealOn b l < sM := sealOn_nn hb0 hb1 l
  have e : sealOn a l - mulOn a l.length + mulOn b l.length = sealOn b l + sM * (t3 - t1 + t2) := by
    rw [h1, h2, h3, Int.sub_mul, Int.mul_add, Int.mul_sub]
    omega
  rw [e, Int.add_mul_emod_self_left, Int.emod_eq_of_lt hn.1 hn.2]
theorem codes_snoc {l : List D} {i : Int} : codeD (.tup (l ++ [.int i])) = [4, ((l.length + 1 : Nat) : Int)] ++ (codesD l ++ [2, (i + 1000000000000000000000000000000) / 1000000000000000, (i + 1000000000000000000000000000000) % 1000000000000000]) := by
  simp [codeD, codesD_app, codesD]
theorem seal_snoc {l : List D} {i : Int} : sealOn ((sealOn 7 [4, (l.length : Int)] |> fun h => (sealOn h (codesD l) - mulOn h (codesD l).length + mulOn (sealOn 7 [4, ((l.length + 1 : Nat) : Int)]) (codesD l).length) % sM)) [2, (i + 1000000000000000000000000000000) / 1000000000000000, (i + 1000000000000000000000000000000) % 1000000000000000] + 1 = sealD (.tup (l ++ [.int i])) := by
  have h1 := sealOn_nn (a := 7) (by decide) (by decide) [4, (l.length : Int)]
  have h2 := sealOn_nn (a := 7) (by decide) (by decide) [4, ((l.length + 1 : Nat) : Int)]
  show sealOn ((sealOn (sealOn 7 [4, (l.length : Int)]) (codesD l) - mulOn (sealOn 7 [4, (l.length : Int)]) (codesD l).length + mulOn (sealOn 7 [4, ((l.length + 1 : Nat) : Int)]) (codesD l).length) % sM) _ + 1 = _
  rw [seal_grown h1.1 h1.2 h2.1 h2.2, ← sealOn_app, ← sealOn_app]
  unfold sealD
  rw [codes_snoc]
end PV

/-! More methods. -/
namespace PV
open PySem L2 PyProof.Rows
section
variable {X : Cx} {cl : Cl}
/-- s.find(y, i) -/
def fFind3 (o : D) (ds : List D) (m : Mp) (k : K3) : Prop := ∃ (z y : Str) (i : Int), o = .str z ∧ ds = [.str y, .int i] ∧ k (.int (Txt.find3 z y i)) m
theorem up_find3 : UpM X cl fFind3 (fun x xs H Q => ∃ (a b : Str) (i : Int), x = .str a ∧ xs = [.str b, .int i] ∧ Q (.int (Txt.find3 a b i)) H) := fun H m o v ds vs Q r1 r2 hm ⟨z, y, i, e1, e2, h⟩ => by
  subst e1 e2
  have r' : v = .str z := r1
  subst r'
  obtain ⟨w, w', rfl, rw, rw'⟩ := reps2 r2
  cases rw
  cases rw'
  exact ⟨z, y, i, rfl, rfl, h _ _ rfl hm (Ext.refl H)⟩
theorem mono_find3 : MonoM fFind3 := fun o ds m k k' hk ⟨z, y, i, e1, e2, h⟩ => ⟨z, y, i, e1, e2, hk _ _ h⟩
end
theorem xf_find3 {z y : Str} {i : Int} {m : Mp} {k : K3} (h : k (.int (Txt.find3 z y i)) m) : fFind3 (.str z) [.str y, .int i] m k := ⟨z, y, i, rfl, rfl, h⟩
theorem xf_mulS {z : Str} {n : Int} {m : Mp} {k : K3} (h1 : -1000 ≤ n) (h2 : n ≤ 1000) (h3 : z.cps.toList.length ≤ 1000) (h : k (.str (repS z n.toNat)) m) : fMul (.str z) (.int n) m k := ⟨h1, h2, by rw [str_len]; exact h3, h⟩
theorem repS_list {z : Str} {n : Nat} : (repS z n).cps.toList = (List.replicate n z.cps.toList).flatten := by unfold repS; simp
theorem from_nat {n a : Nat} : PySem.fromIndex n (a : Int) = a := by
  unfold PySem.fromIndex
  rw [if_neg (by omega)]; omega
theorem find3_is {z : Str} {c a : Nat} : (Txt.find3 z ⟨#[c]⟩ (a : Int) = -1 ∧ ∀ j, a ≤ j → z.cps.toList[j]? ≠ some c) ∨ ∃ j : Nat, a ≤ j ∧ Txt.find3 z ⟨#[c]⟩ (a : Int) = (j : Int) ∧ z.cps.toList[j]? = some c ∧ ∀ i, a ≤ i → i < j → z.cps.toList[i]? ≠ some c := by
  have h := PySem.StrLaws.find3_spec z c (a : Int)
  rw [from_nat] at h
  rcases h with ⟨h1, h2⟩ | h
  · refine .inl ⟨h1, fun j hj e => ?_⟩
    have hl := (List.getElem?_eq_some_iff.mp e).1
    exact h2 j hj (by rw [str_len]; exact hl) (PySem.StrLaws.getD_of_getElem? e)
  · obtain ⟨j, h1, h2, h3, h4, h5⟩ := h
    refine .inr ⟨j, h2, h1, PySem.StrLaws.getElem?_of_getD h3 h4, fun i hi hj e => ?_⟩
    exact h5 i hi hj (PySem.StrLaws.getD_of_getElem? e)
theorem xf_isET {p : Addr} {C : String} {ns : List String} {m : Mp} {k : K3} (h1 : m p = some (.exc C none)) (h2 : ns.any (subX C) = true) (h : k (.bl true) m) : isED (.ref p) ns m k := xf_isE0 h1 (by rw [h2]; exact h)
theorem xf_isEF {p : Addr} {C : String} {ns : List String} {m : Mp} {k : K3} (h1 : m p = some (.exc C none)) (h2 : ns.any (subX C) = false) (h : k (.bl false) m) : isED (.ref p) ns m k := xf_isE0 h1 (by rw [h2]; exact h)
end PV

/-! Classes of the program: made, fields, methods. -/
namespace PV
open PySem L2 PyProof.Rows
/-- a field put -/
def putFD (f : Str) (v : D) : List (Str × D) → List (Str × D)
  | [] => [(f, v)]
  | (g, x) :: r => if g = f then (g, v) :: r else (g, x) :: putFD f v r
theorem repk_look {K : PySem.W.Frag} {H : Hp} {f : Str} : ∀ {fs : List (Str × D)} {vs : List (Str × V)}, RepK K H fs vs → (fs.lookup f = none ∧ vs.lookup f = none) ∨ ∃ d v, fs.lookup f = some d ∧ vs.lookup f = some v ∧ Rep K H d v
  | [], _, h => by cases h; exact .inl ⟨rfl, rfl⟩
  | (g, d) :: fs, _, h => by
    obtain ⟨v, r, rfl, h2, h3⟩ := h
    rw [List.lookup_cons, List.lookup_cons]
    cases e : f == g with
    | true => exact .inr ⟨d, v, rfl, rfl, h2⟩
    | false => exact repk_look h3
theorem repk_lookS {K : PySem.W.Frag} {H : Hp} {f : Str} {fs : List (Str × D)} {vs : List (Str × V)} {d : D} (h : RepK K H fs vs) (e : fs.lookup f = some d) : ∃ v, vs.lookup f = some v ∧ Rep K H d v := by
  rcases repk_look (f := f) h with ⟨h1, _⟩ | ⟨d', v, h1, h2, h3⟩
  · rw [h1] at e; cases e
  · rw [h1] at e; cases e; exact ⟨v, h2, h3⟩
theorem repk_lookN {K : PySem.W.Frag} {H : Hp} {f : Str} {fs : List (Str × D)} {vs : List (Str × V)} (h : RepK K H fs vs) (e : fs.lookup f = none) : vs.lookup f = none := by
  rcases repk_look (f := f) h with ⟨_, h1⟩ | ⟨d', v, h1, h2, h3⟩
  · exact h1
  · rw [h1] at e; cases e
theorem repk_putF {K : PySem.W.Frag} {H : Hp} {f : Str} {d : D} {v : V} (q : Rep K H d v) : ∀ {fs : List (Str × D)} {vs : List (Str × V)}, RepK K H fs vs → RepK K H (putFD f d fs) (L2.putF f v vs)
  | [], _, h => by cases h; exact ⟨v, [], rfl, q, rfl⟩
  | (g, x) :: fs, _, h => by
    obtain ⟨w, r, rfl, h2, h3⟩ := h
    unfold putFD L2.putF
    by_cases e : g = f
    · rw [if_pos e, if_pos e]; exact ⟨v, r, rfl, q, h3⟩
    · rw [if_neg e, if_neg e]; exact ⟨w, _, rfl, h2, repk_putF q h3⟩
/-- what stands of the classes: no class of them has an attribute of a field's name -/
structure ClK (K : PySem.W.Frag) (cl : Cl) (fl : List Str) : Prop where
  cls : ∀ C a, C ∉ eNames → cl C = some a → Cls K a
  no : ∀ C a f, C ∉ eNames → cl C = some a → f ∈ fl → NoAttr K a f
section
variable {X : Cx} {cl : Cl} {W : WX} {fl : List Str} {o e a : Expr} {es : List Expr} {A B : TE3} {R : TA3} {pos p apos pos' : Pos} {f m : Str} {T : Tb} {L : Nat}
/-! ### fields -/
def eFld (f : Str) (A : TE3) : TE3 := fun s m k x => A s m (fun d m1 => ∃ a C fs v, d = .ref a ∧ m1 a = some (.ins C fs) ∧ fs.lookup f = some v ∧ k v m1) x
theorem q_fld (CK : ClK X.K cl fl) (hf : f ∈ fl) (ha : QE X cl W o A) (hb : attributeBase o f X.env (eval o X.env) = eval o X.env) : QE X cl W (.Attribute o f pos) (eFld f A) := by
  refine ⟨fun s m k k' x x' hk hx q => ha.mono _ _ _ _ _ _ (fun d m1 ⟨a, C, fs, v, h1, h2, h3, h4⟩ => ⟨a, C, fs, v, h1, h2, h3, hk _ _ h4⟩) hx q, ?_⟩
  refine PE.imp (pe_fld ha.run hb) fun σ H Q ⟨s, m, hs, hm, q⟩ => ⟨s, m, hs, hm, ha.mono _ _ _ _ _ _ (fun d m1 z v H1 r hm1 e1 => ?_) (fun _ _ z => z) q⟩
  obtain ⟨a, C, fs, w, rfl, h2, h3, h4⟩ := z
  have r' : v = .ref a := r
  obtain ⟨Ca, dx, fvs, ⟨hC, hc⟩, hh, hr⟩ := hm1.1 a _ h2
  obtain ⟨v', e3, r3⟩ := repk_lookS hr h3
  exact ⟨a, Ca, dx, fvs, v', r', hh, CK.cls C Ca hC hc, CK.no C Ca f hC hc hf, e3, h4 _ _ r3 hm1 e1⟩
/-- o.f = e -/
def sFldS (f : Str) (O V : TE3) : TS3 := fun D s m => V s m (fun v m1 => O s m1 (fun o m2 => ∃ a C fs, o = .ref a ∧ m2 a = some (.ins C fs) ∧ fs.length < 1000 ∧ D.nx s (mset m2 a (.ins C (putFD f v fs)))) (D.ex s)) (D.ex s)
theorem ext_insD {K : PySem.W.Frag} {H : Hp} {p C dx : Addr} {fs : List (Str × V)} {u : HO} (h : H p = some (.ins C dx fs)) : Ext H (upd H p u) := ext_ins h
theorem qs_fld {O V : TE3} (CK : ClK X.K cl fl) (hf : f ∈ fl) (ho : QE X cl W o O) (hv : QE X cl W e V) (hs : swapsWith e (some (.Attribute o f pos')) pos.line X.env = pure false) : QS X cl W (.Assign [.Attribute o f pos'] e pos) (sFldS f O V) := by
  refine ⟨fun s m D D' l q => hv.mono _ _ _ _ _ _ (fun v m1 z => ho.mono _ _ _ _ _ _ (fun o m2 ⟨a, C, fs, h1, h2, h3, h4⟩ => ⟨a, C, fs, h1, h2, h3, l.nx _ _ h4⟩) (fun _ _ z => l.ex _ _ _ z) z) (fun _ _ z => l.ex _ _ _ z) q, ?_⟩
  refine PS.imp (ps_fld ho.run hv.run hs) fun D σ H ⟨s, m, hs, hm, q⟩ => ?_
  refine ⟨s, m, hs, hm, hv.mono _ _ _ _ _ _ (fun v m1 z y H1 ry hm1 e1 => ?_) (fun _ _ z => ex_cX hs z) q⟩
  refine ⟨s, m1, hs.mono e1, hm1, ho.mono _ _ _ _ _ _ (fun od m2 z2 x H2 rx hm2 e2 => ?_) (fun _ _ z => cX_ext e1 (ex_cX hs z)) z⟩
  obtain ⟨a, C, fs, rfl, h2, h3, h4⟩ := z2
  have rx' : x = .ref a := rx
  obtain ⟨Ca, dx, fvs, ⟨hC, hc⟩, hh, hr⟩ := hm2.1 a _ h2
  refine ⟨a, Ca, dx, fvs, rx', hh, CK.cls C Ca hC hc, CK.no C Ca f hC hc hf, by rw [← hr.length]; exact h3, ?_⟩
  have ex := ext_ins (u := .ins Ca dx (L2.putF f y fvs)) hh
  exact h4 σ _ (hs.mono ((e1.trans e2).trans ex)) (hm2.put ex ⟨Ca, dx, _, ⟨hC, hc⟩, upd_same, (repk_putF (ry.mono e2) hr).mono ex⟩) ((e1.trans e2).trans ex)
/-! ### methods -/
/-- a def's promises at a level, wherever it stands -/
structure KnM (P : Program) (w : World) (K : PySem.W.Frag) (mg : Str → Option Value) (base : Heap) (cl : Cl) (T : Tb) (L : Nat) (i : Nat) (fa : Addr) : Prop where
  kp : PySem.W.keepIn K (.ref fa) = true
  isf : PySem.W.isFn K (.ref fa) = true
  fn : ∀ S, T i S → ∃ fd ps, FnOk P w K mg base (L2.CX P w) L fa fd ps (liftSp K cl S L) ∧ Binds K fd ps []
/-- the method table: of a class and a name the def's number -/
abbrev MT := String → String → Option Nat
structure Mts (P : Program) (w : World) (K : PySem.W.Frag) (mg : Str → Option Value) (base : Heap) (cl : Cl) (T : Tb) (L : Nat) (M : MT) (ns : List String) : Prop where
  at_ : ∀ C a, C ∉ eNames → cl C = some a → ∀ m ∈ ns, ∀ i, M C m = some i → ∃ fa, PySem.W.findIn K (.ref a) (Str.ofString m) = some (some (.ref fa)) ∧ KnM P w K mg base cl T L i fa
def eMeth (T : Tb) (L : Nat) (M : MT) (m : String) (O : TE3) (R : TA3) : TE3 := fun s mm k x => O s mm (fun o m1 => ∃ a C fs i, o = .ref a ∧ m1 a = some (.ins C fs) ∧ fs.lookup (Str.ofString m) = none ∧ M C m = some i ∧ R s m1 (fun ds m2 => callS T L i (.ref a :: ds) m2 k x) x) x
theorem mono_meth {M : MT} {m : String} (ho : MonoE A) (hr : MonoA R) : MonoE (eMeth T L M m A R) := fun s mm k k' x x' hk hx q =>
  ho _ _ _ _ _ _ (fun o m1 ⟨a, C, fs, i, h1, h2, h3, h4, h5⟩ => ⟨a, C, fs, i, h1, h2, h3, h4, hr _ _ _ _ _ _ (fun ds m2 ⟨S, t, al, g1, g2, g3, g4⟩ => ⟨S, t, al, g1, g2, fun d m' z => hk _ _ (g3 d m' z), fun e m' z => hx _ _ (g4 e m' z)⟩) hx h5⟩) hx q
theorem q_meth {M : MT} {n : String} {ns : List String} {pl : Sem Bool} (tk : Takes X W) (CK : ClK X.K cl fl) (MK : Mts X.prog X.w X.K X.mg X.base cl T L M ns) (hr : Room L X.A) (hn : n ∈ ns) (hm : m = Str.ofString n) (ho : QE X cl W o A) (ha : QA X cl W (e :: es) R)
    (hst : starEach (e :: es) X.env = (false, eval e X.env) :: starEach es X.env) (hpl : (backTo pos (starEach es X.env)).any (·.1) = false)
    (ht : eval (.Call (.Attribute o m apos) (e :: es) [] pos) X.env = (do let ov ← eval o X.env; standAt apos.atName; let (f, first) ← holding [ov] (getMethod ov m pl); callWith pos f first (backTo pos (starEach (e :: es) X.env)) (backToKw pos (keywordEach [] X.env)))) :
    QE X cl W (.Call (.Attribute o m apos) (e :: es) [] pos) (eMeth T L M n A R) := by
  subst hm
  refine ⟨mono_meth ho.mono ha.mono, ⟨fun pins s0 σ H Q I h => ?_⟩⟩
  obtain ⟨s, mm, hs, hm, h⟩ := h
  have hO : upE X.K cl W A σ H (fun v H1 => ∃ d m1, Rep X.K H1 d v ∧ Ab X.K cl H1 m1 ∧ Ext H H1 ∧ ∃ a C fs i, d = .ref a ∧ m1 a = some (.ins C fs) ∧ fs.lookup (Str.ofString n) = none ∧ M C n = some i ∧ R s m1 (fun ds m2 => callS T L i (.ref a :: ds) m2 (cE X.K cl H Q) (cX X.K cl W H σ)) (cX X.K cl W H σ)) :=
    ⟨s, mm, hs, hm, ho.mono _ _ _ _ _ _ (fun d m1 z v H1 r hm1 e1 => ⟨d, m1, r, hm1, e1, z⟩) (fun _ _ z => z) h⟩
  refine PySem.W.methodCall_KW (pl := pl) (thn (ho.run.run pins s0 σ H _ I hO) fun u s1 ⟨v, H1, I1, rv, d, m1, r, hm1, e1, a, C, fs, i, hd, h2, h3, h4, h5⟩ => ?_) ht
  subst hd
  have r' : v = .ref a := r
  subst r'
  obtain rfl : u = Value.ref a := rv
  obtain ⟨Ca, dx, fvs, ⟨hC, hc⟩, hh, hrr⟩ := hm1.1 a _ h2
  obtain ⟨fa, hf1, hf2⟩ := MK.at_ C Ca hC hc n hn i h4
  refine getmeth_ok I1 hh (CK.cls C Ca hC hc) ⟨hf1, hf2.isf, hf2.kp⟩ (repk_lookN hrr h3) ?_
  have hA : upA X.K cl W R σ H1 (fun vs H2 => ∃ ds m2, Reps X.K H2 ds vs ∧ Ab X.K cl H2 m2 ∧ Ext H H2 ∧ callS T L i (.ref a :: ds) m2 (cE X.K cl H Q) (cX X.K cl W H σ)) :=
    ⟨s, m1, hs.mono e1, hm1, ha.mono _ _ _ _ _ _ (fun ds m2 z vs H2 r2 hm2 e2 => ⟨ds, m2, r2, hm2, e1.trans e2, z⟩) (fun _ _ z => cX_ext e1 z) h5⟩
  refine PySem.W.callWith_K (first := [.ref a]) (h₀ := X.base) I.ok.mod.kin hf2.kp (thn (ha.run.run pos pins s1 σ H1 _ I1 hA) fun us s2 ⟨vs, H2, I2, r2, ds, m2, q1, hm2, e2, S, t, al, g1, g2, g3, g4⟩ => ⟨I2.kIn, ?_⟩) hst hpl
  obtain ⟨fd, ps, F, hb⟩ := hf2.fn S t
  exact run_fnS (us := .ref a :: us) (vs := .ref a :: vs) F hr hb (passAt tk σ) I2 (.cons rfl r2) ⟨.ref a :: ds, m2, al, ⟨.ref a, vs, rfl, rfl, q1⟩, hm2, g1, g2, fun d m' z => cE_ext e2 (g3 d m' z), fun x m' z c dd H' a' b e => g4 x m' z c dd H' a' b (e2.trans e)⟩
theorem q_meth0 {M : MT} {n : String} {ns : List String} {pl : Sem Bool} (tk : Takes X W) (CK : ClK X.K cl fl) (MK : Mts X.prog X.w X.K X.mg X.base cl T L M ns) (hr : Room L X.A) (hn : n ∈ ns) (hm : m = Str.ofString n) (ho : QE X cl W o A)
    (ht : eval (.Call (.Attribute o m apos) [] [] pos) X.env = (do let ov ← eval o X.env; standAt apos.atName; let (f, first) ← holding [ov] (getMethod ov m pl); callWith pos f first (backTo pos (starEach [] X.env)) (backToKw pos (keywordEach [] X.env)))) :
    QE X cl W (.Call (.Attribute o m apos) [] [] pos) (eMeth T L M n A aNil) := by
  subst hm
  refine ⟨mono_meth ho.mono (qa_nil (X := X) (cl := cl) (W := W)).mono, ⟨fun pins s0 σ H Q I h => ?_⟩⟩
  obtain ⟨s, mm, hs, hm, h⟩ := h
  have hO : upE X.K cl W A σ H (fun v H1 => ∃ d m1, Rep X.K H1 d v ∧ Ab X.K cl H1 m1 ∧ Ext H H1 ∧ ∃ a C fs i, d = .ref a ∧ m1 a = some (.ins C fs) ∧ fs.lookup (Str.ofString n) = none ∧ M C n = some i ∧ aNil s m1 (fun ds m2 => callS T L i (.ref a :: ds) m2 (cE X.K cl H Q) (cX X.K cl W H σ)) (cX X.K cl W H σ)) :=
    ⟨s, mm, hs, hm, ho.mono _ _ _ _ _ _ (fun d m1 z v H1 r hm1 e1 => ⟨d, m1, r, hm1, e1, z⟩) (fun _ _ z => z) h⟩
  refine PySem.W.methodCall_KW (pl := pl) (thn (ho.run.run pins s0 σ H _ I hO) fun u s1 ⟨v, H1, I1, rv, d, m1, r, hm1, e1, a, C, fs, i, hd, h2, h3, h4, h5⟩ => ?_) ht
  subst hd
  have r' : v = .ref a := r
  subst r'
  obtain rfl : u = Value.ref a := rv
  obtain ⟨Ca, dx, fvs, ⟨hC, hc⟩, hh, hrr⟩ := hm1.1 a _ h2
  obtain ⟨fa, hf1, hf2⟩ := MK.at_ C Ca hC hc n hn i h4
  refine getmeth_ok I1 hh (CK.cls C Ca hC hc) ⟨hf1, hf2.isf, hf2.kp⟩ (repk_lookN hrr h3) ?_
  obtain ⟨S, t, al, g1, g2, g3, g4⟩ := h5
  obtain ⟨fd, ps, F, hb⟩ := hf2.fn S t
  exact PySem.W.callWith_K0 (first := [.ref a]) I1.kIn hf2.kp (run_fnS (us := [.ref a]) (vs := [.ref a]) F hr hb (passAt tk σ) I1 (.cons rfl .nil) ⟨[.ref a], m1, al, ⟨.ref a, [], rfl, rfl, rfl⟩, hm1, g1, g2, fun d m' z => cE_ext e1 (g3 d m' z), fun x m' z c dd H' a' b e => g4 x m' z c dd H' a' b (e1.trans e)⟩)
/-! ### a method by its class: C.m(o, ..) -/
structure CMt (P : Program) (w : World) (K : PySem.W.Frag) (mg : Str → Option Value) (base : Heap) (cl : Cl) (T : Tb) (L : Nat) (C m : String) (i : Nat) : Prop where
  at_ : ∃ Ca fa mc, mg (Str.ofString C) = some (.ref Ca) ∧ PySem.W.readsIn K Ca mc = true ∧ PySem.W.specialIn K (.ref Ca) "__getattribute__" = some (some (.builtin "type.__getattribute__")) ∧ PySem.W.findCls K (.ref Ca) mc (Str.ofString m) = some (.val (.ref fa)) ∧
    PySem.W.handedIn (.ref fa) = true ∧ KnM P w K mg base cl T L i fa
theorem q_cmeth {C n : String} {i : Nat} {c : Str} {pl : Sem Bool} (tk : Takes X W) (CM : CMt X.prog X.w X.K X.mg X.base cl T L C n i) (hr : Room L X.A) (hc : c = Str.ofString C) (hm : m = Str.ofString n) (hg : Gl X c) (hdb : (c == ("__debug__" : Str)) = false) (ha : QA X cl W (e :: es) R)
    (hst : starEach (e :: es) X.env = (false, eval e X.env) :: starEach es X.env) (hpl : (backTo pos (starEach es X.env)).any (·.1) = false)
    (ht : eval (.Call (.Attribute (.Name c p) m apos) (e :: es) [] pos) X.env = (do let ov ← eval (.Name c p) X.env; standAt apos.atName; let (f, first) ← holding [ov] (getMethod ov m pl); callWith pos f first (backTo pos (starEach (e :: es) X.env)) (backToKw pos (keywordEach [] X.env)))) :
    QE X cl W (.Call (.Attribute (.Name c p) m apos) (e :: es) [] pos) (eCall T L i R) := by
  subst hm hc
  obtain ⟨Ca, fa, mc, g1, g2, g3, g4, g5, hf⟩ := CM.at_
  refine ⟨mono_call ha.mono, ⟨fun pins s0 σ H Q I h => ?_⟩⟩
  obtain ⟨s, mm, hs, hm, h⟩ := h
  refine PySem.W.methodCall_KW (pl := pl) (ld_glob I hg g1 ?_ hdb) ht
  refine PySem.W.method_cls I.kIn g3 (PySem.W.cls_value I.kIn g2 g4 g5 ?_)
  have hA : ∀ {s1}, Inv X pins σ H s1 → upA X.K cl W R σ H (fun vs H1 => ∃ ds m1, Reps X.K H1 ds vs ∧ Ab X.K cl H1 m1 ∧ Ext H H1 ∧ callS T L i ds m1 (cE X.K cl H Q) (cX X.K cl W H σ)) := fun _ =>
    ⟨s, mm, hs, hm, ha.mono _ _ _ _ _ _ (fun ds m1 z vs H1 r1 hm1 e1 => ⟨ds, m1, r1, hm1, e1, z⟩) (fun _ _ z => z) h⟩
  have J : Inv X pins σ H { s0 with toks := s0.toks + 1 } := I.tok _
  refine PySem.W.callWith_K (h₀ := X.base) I.ok.mod.kin hf.kp (thn (ha.run.run pos pins _ σ H _ J (hA J)) fun us s1 ⟨vs, H1, I1, r, ds, m1, r1, hm1, e1, S, t, al, h1, h2, h3, h4⟩ => ⟨I1.kIn, ?_⟩) hst hpl
  obtain ⟨fd, ps, F, hb⟩ := hf.fn S t
  exact run_fnS F hr hb (passAt tk σ) I1 r ⟨ds, m1, al, r1, hm1, h1, h2, fun d m' z => cE_ext e1 (h3 d m' z), fun x m' z c dd H' a b e => h4 x m' z c dd H' a b (e1.trans e)⟩
/-! ### made: C(..) -/
structure MkC (P : Program) (w : World) (K : PySem.W.Frag) (mg : Str → Option Value) (base : Heap) (cl : Cl) (T : Tb) (L : Nat) (C : String) (i : Nat) (fa : Addr) : Prop where
  at_ : ∃ Ca, C ∉ eNames ∧ cl C = some Ca ∧ mg (Str.ofString C) = some (.ref Ca) ∧ Mk K Ca fa ∧ ∀ j, j < L → KnM P w K mg base cl T j i fa
def eMake (T : Tb) (L i : Nat) (C : String) (R : TA3) : TE3 := fun s m k x => R s m (fun ds m1 => ∀ a, m1 a = none → callS T (L - 1) i (.ref a :: ds) (mset m1 a (.ins C [])) (fun d m2 => d = .non ∧ k (.ref a) m2) x) x
theorem mono_make {C : String} {i : Nat} (hr : MonoA R) : MonoE (eMake T L i C R) := fun s m k k' x x' hk hx h => hr _ _ _ _ _ _ (fun ds m1 z a ha => let ⟨S, t, al, h1, h2, h3, h4⟩ := z a ha; ⟨S, t, al, h1, h2, fun d m' y => let ⟨y1, y2⟩ := h3 d m' y; ⟨y1, hk _ _ y2⟩, fun e m' y => hx _ _ (h4 e m' y)⟩) hx h
/-- the class called: a new instance, its __init__ run; what it raises is wished for at the slots -/
theorem run_makeAt {CXx : CXT} {k : Nat} {fi C : Addr} {fd : FuncData} {ps : List Str} {sp : Sp} {E : XK} {pins : List (Addr × Obj)} {σ : L2.St} {H : Hp} {s : Shared} {Q : VK} {us : List Value} {vs : List V} (M : Mk X.K C fi) (F : FnOk X.prog X.w X.K X.mg X.base CXx k fi fd ps sp)
    (hr : Room (k + 1) X.A) (hb : Binds X.K fd ps []) (hx : PassesAt CXx X σ E) (I : Inv X pins σ H s) (r : Vals vs us)
    (h : ∀ x dx, x = s.heap.objs.size + 1 → H x = none → H dx = none → dx ≠ x → sp (.ref x :: vs) (upd (upd H dx (.own x)) x (.ins C dx [])) (fun v H2 => v = .non ∧ Q (.ref x) H2) E) : wpAny (model X.prog X.w) X.A (call (.ref C) us) (EP X pins σ Q) X.xe s := by
  obtain ⟨n, hn⟩ : ∃ n, n = s.heap.objs.size := ⟨_, rfl⟩
  have q0 := h (n + 1) n (by rw [hn]) (by rw [hn]; exact I.hok.fresh (Nat.le_succ _)) (by rw [hn]; exact I.hok.fresh (Nat.le_refl _)) (Nat.ne_of_lt (Nat.lt_succ_self _))
  subst hn
  have J := Inv.made (C := C) I
  have rr : Vals (V.ref (s.heap.objs.size + 1) :: vs) (Value.ref (s.heap.objs.size + 1) :: us) := .cons rfl r
  have hl : (Value.ref (s.heap.objs.size + 1) :: us).length = ps.length := by rw [← rr.length]; exact F.len _ _ _ _ q0
  have b := hb _ (Value.ref (s.heap.objs.size + 1) :: us) J.kIn (by rw [List.append_nil]; exact hl)
  rw [List.append_nil] at b
  refine wpAny_call (make_map (f := fi) I.kIn M.makes M.init (beq_iff_eq.mp M.fn) (codeAny_mono (F.run _ X.stack _ _ ⟨_, []⟩ _ _ _ E (hr.make C us []) (J.env0.make C us []) b rr q0) fun z s' hz => ?_))
  cases z with
  | error e => exact hx pins _ _ e s' J hz
  | ok fl => cases fl with
    | ret u =>
      obtain ⟨v, H', J3, rv, ev, q3⟩ := J.after hz
      subst ev
      exact ⟨rv, ⟨V.ref (s.heap.objs.size + 1), H', J3, rfl, q3⟩⟩
    | next => cases hz
    | brk => cases hz
    | cont => cases hz
theorem q_make {C : String} {i : Nat} {c : Str} (tk : Takes X W) {fa : Addr} (MC : MkC X.prog X.w X.K X.mg X.base cl T L C i fa) (hr : Room L X.A) (hc : c = Str.ofString C) (hg : Gl X c) (hdb : (c == ("__debug__" : Str)) = false) (ha : QA X cl W (e :: es) R)
    (hst : starEach (e :: es) X.env = (false, eval e X.env) :: starEach es X.env) (hpl : (backTo pos (starEach es X.env)).any (·.1) = false) : QE X cl W (.Call (.Name c p) (e :: es) [] pos) (eMake T L i C R) := by
  subst hc
  obtain ⟨Ca, g0, g1, g2, g3, g4⟩ := MC.at_
  refine ⟨mono_make ha.mono, ⟨fun pins s0 σ H Q I h => ?_⟩⟩
  obtain ⟨s, mm, hs, hm, h⟩ := h
  refine wpAny_Call_Name_kw (ld_glob I hg g2 ?_ hdb)
  have hA : upA X.K cl W R σ H (fun vs H1 => ∃ ds m1, Reps X.K H1 ds vs ∧ Ab X.K cl H1 m1 ∧ Ext H H1 ∧ ∀ a, m1 a = none → callS T (L - 1) i (.ref a :: ds) (mset m1 a (.ins C [])) (fun d m2 => d = .non ∧ cE X.K cl H Q (.ref a) m2) (cX X.K cl W H σ)) :=
    ⟨s, mm, hs, hm, ha.mono _ _ _ _ _ _ (fun ds m1 z vs H1 r1 hm1 e1 => ⟨ds, m1, r1, hm1, e1, z⟩) (fun _ _ z => z) h⟩
  refine PySem.W.callWith_K (h₀ := X.base) I.ok.mod.kin g3.kp (thn (ha.run.run pos pins s0 σ H _ I hA) fun us s1 ⟨vs, H1, I1, r, ds, m1, r1, hm1, e1, z⟩ => ⟨I1.kIn, ?_⟩) hst hpl
  -- which level
  obtain ⟨S, t, al, h1, h2, h3, h4⟩ := z (s1.heap.objs.size + 1) (hm1.free (I1.hok.fresh (Nat.le_succ _)))
  obtain ⟨L', rfl⟩ : ∃ L', L = L' + 1 := ⟨L - 1, by omega⟩
  obtain ⟨fd, ps, F, hb⟩ := (g4 L' (Nat.lt_succ_self _)).fn S t
  refine run_makeAt g3 F hr hb (passAt tk σ) I1 r fun x dx ex nx ndx ne => ?_
  subst ex
  have e2 : Ext H1 (upd H1 dx (.own (s1.heap.objs.size + 1))) := Ext.new ndx
  have nx2 : (upd H1 dx (.own (s1.heap.objs.size + 1))) (s1.heap.objs.size + 1) = none := by rw [upd_ne (Ne.symm ne)]; exact nx
  have e3 : Ext (upd H1 dx (.own (s1.heap.objs.size + 1))) (upd (upd H1 dx (.own (s1.heap.objs.size + 1))) (s1.heap.objs.size + 1) (.ins Ca dx [])) := Ext.new nx2
  have hm3 := (hm1.hid (u := .own (s1.heap.objs.size + 1)) ndx).new (o := .ins C []) (u := .ins Ca dx []) nx2 ⟨Ca, dx, [], ⟨g0, g1⟩, upd_same, rfl⟩
  have e13 := (e1.trans e2).trans e3
  refine ⟨.ref (s1.heap.objs.size + 1) :: ds, _, al, ⟨_, _, rfl, rfl, r1.mono (e2.trans e3)⟩, hm3, h1, h2, fun d m' y v H' rv hm' e' => ?_, fun x m' y c dd H' a b e => h4 x m' y c dd H' a b (e13.trans e)⟩
  obtain ⟨y1, y2⟩ := h3 d m' y
  subst y1
  exact ⟨rv, y2 _ H' rfl hm' (e13.trans e')⟩
theorem q_make0 {C : String} {i : Nat} {c : Str} (tk : Takes X W) {fa : Addr} (MC : MkC X.prog X.w X.K X.mg X.base cl T L C i fa) (hr : Room L X.A) (hc : c = Str.ofString C) (hg : Gl X c) (hdb : (c == ("__debug__" : Str)) = false) : QE X cl W (.Call (.Name c p) [] [] pos) (eMake T L i C aNil) := by
  subst hc
  obtain ⟨Ca, g0, g1, g2, g3, g4⟩ := MC.at_
  refine ⟨mono_make (qa_nil (X := X) (cl := cl) (W := W)).mono, ⟨fun pins s1 σ H1 Q I1 h => ?_⟩⟩
  obtain ⟨s, m1, hs, hm1, z⟩ := h
  refine wpAny_Call_Name_kw (ld_glob I1 hg g2 ?_ hdb)
  obtain ⟨S, t, al, h1, h2, h3, h4⟩ := z (s1.heap.objs.size + 1) (hm1.free (I1.hok.fresh (Nat.le_succ _)))
  obtain ⟨L', rfl⟩ : ∃ L', L = L' + 1 := ⟨L - 1, by omega⟩
  obtain ⟨fd, ps, F, hb⟩ := (g4 L' (Nat.lt_succ_self _)).fn S t
  refine PySem.W.callWith_K0 I1.kIn g3.kp (run_makeAt (us := []) (vs := []) g3 F hr hb (passAt tk σ) I1 .nil fun x dx ex nx ndx ne => ?_)
  subst ex
  have e2 : Ext H1 (upd H1 dx (.own (s1.heap.objs.size + 1))) := Ext.new ndx
  have nx2 : (upd H1 dx (.own (s1.heap.objs.size + 1))) (s1.heap.objs.size + 1) = none := by rw [upd_ne (Ne.symm ne)]; exact nx
  have e3 : Ext (upd H1 dx (.own (s1.heap.objs.size + 1))) (upd (upd H1 dx (.own (s1.heap.objs.size + 1))) (s1.heap.objs.size + 1) (.ins Ca dx [])) := Ext.new nx2
  have hm3 := (hm1.hid (u := .own (s1.heap.objs.size + 1)) ndx).new (o := .ins C []) (u := .ins Ca dx []) nx2 ⟨Ca, dx, [], ⟨g0, g1⟩, upd_same, rfl⟩
  have e13 := e2.trans e3
  refine ⟨[.ref (s1.heap.objs.size + 1)], _, al, ⟨_, _, rfl, rfl, rfl⟩, hm3, h1, h2, fun d m' y v H' rv hm' e' => ?_, fun x m' y c dd H' a b e => h4 x m' y c dd H' a b (e13.trans e)⟩
  obtain ⟨y1, y2⟩ := h3 d m' y
  subst y1
  exact ⟨rv, y2 _ H' rfl hm' (e13.trans e')⟩
end
end PV

/-! Dicts walked under a lock; get, clear, sorted. -/
namespace PV
open PySem L2 PyProof.Rows
/-! ### unlocking: what is read of tuples stays -/
def SqM (K : PySem.W.Frag) (H H' : Hp) : Prop := ∀ a xs, SqT K H a xs → SqT K H' a xs
mutual
theorem Rep.monoQ {K : PySem.W.Frag} {H H' : Hp} (e : SqM K H H') : ∀ {d : D} {v : V}, Rep K H d v → Rep K H' d v
  | .non, _, h => h
  | .bl _, _, h => h
  | .int _, _, h => h
  | .str _, _, h => h
  | .tup l, _, h => by
    obtain ⟨a, vs, e1, e2, e3⟩ := h
    exact ⟨a, vs, e1, e a vs e2, Reps.monoQ e e3⟩
  | .ref _, _, h => h
  | .ty _, _, h => h
theorem Reps.monoQ {K : PySem.W.Frag} {H H' : Hp} (e : SqM K H H') : ∀ {ds : List D} {vs : List V}, Reps K H ds vs → Reps K H' ds vs
  | [], _, h => h
  | d :: ds, _, h => by
    obtain ⟨v, r, e1, e2, e3⟩ := h
    exact ⟨v, r, e1, Rep.monoQ e e2, Reps.monoQ e e3⟩
end
theorem RepK.monoQ {κ : Type} {K : PySem.W.Frag} {H H' : Hp} (e : SqM K H H') : ∀ {ds : List (κ × D)} {vs : List (κ × V)}, RepK K H ds vs → RepK K H' ds vs
  | [], _, h => h
  | (k, d) :: ds, _, h => by
    obtain ⟨v, r, e1, e2, e3⟩ := h
    exact ⟨v, r, e1, e2.monoQ e, RepK.monoQ e e3⟩
theorem RepXs.monoQ {K : PySem.W.Frag} {H H' : Hp} (e : SqM K H H') : ∀ {ds : List (D × D)} {xs : List XEn}, RepXs K H ds xs → RepXs K H' ds xs
  | [], _, h => h
  | (k, d) :: ds, _, h => by
    obtain ⟨x, y, r, e1, e2, e3, e4⟩ := h
    exact ⟨x, y, r, e1, e2.monoQ e, e3.monoQ e, RepXs.monoQ e e4⟩
theorem RepO.monoQ {K : PySem.W.Frag} {cl : Cl} {H H' : Hp} {a : Addr} (e : SqM K H H') (ha : H' a = H a) : ∀ {o : O}, RepO K cl H a o → RepO K cl H' a o
  | .lst l, ⟨vs, h1, h2⟩ => ⟨vs, ha.trans h1, h2.monoQ e⟩
  | .rol l, ⟨o, vs, h1, h2⟩ => ⟨o, vs, ha.trans h1, h2.monoQ e⟩
  | .dK _, ⟨vs, h1, h2⟩ => ⟨vs, ha.trans h1, h2.monoQ e⟩
  | .dT _, ⟨vs, h1, h2⟩ => ⟨vs, ha.trans h1, h2.monoQ e⟩
  | .rdK _, ⟨o, vs, h1, h2⟩ => ⟨o, vs, ha.trans h1, h2.monoQ e⟩
  | .dD _, ⟨xs, h1, h2⟩ => ⟨xs, ha.trans h1, h2.monoQ e⟩
  | .ins _ _, ⟨Ca, dx, vs, h0, h1, h2⟩ => ⟨Ca, dx, vs, h0, ha.trans h1, h2.monoQ e⟩
  | .xd _, ⟨vs, h1, h2⟩ => ⟨vs, ha.trans h1, h2.monoQ e⟩
  | .exc _ _, ⟨Ca, hn, h0, h1⟩ => ⟨Ca, hn, h0, ha.trans h1⟩
theorem RepS.monoQ {K : PySem.W.Frag} {H H' : Hp} {s : S3} {σ : L2.St} (e : SqM K H H') (h : RepS K H s σ) : RepS K H' s σ := ⟨h.1, fun i d q => let ⟨v, h1, h2⟩ := h.2 i d q; ⟨v, h1, h2.monoQ e⟩⟩
section
variable {K : PySem.W.Frag} {cl : Cl} {H H' : Hp} {m : Mp} {d : Addr} {od : Obj} {kvs : List (Key × D)} {kws : List (Key × V)}
theorem sqm_unlock (h : H' d = some (.frz od (.dK kws))) : SqM K H' (upd H' d (.dK kws)) := fun a xs z => by
  rcases z with (z | ⟨o, z⟩) | z
  · exact .inl (.inl (by rw [upd_ne (fun e => by rw [e, h] at z; cases z)]; exact z))
  · exact .inl (.inr ⟨o, by rw [upd_ne (fun e => by rw [e, h] at z; cases z)]; exact z⟩)
  · exact .inr z
theorem ext_unlock (h0 : H d = some (.dK kws)) (e : Ext (upd H d (.frz od (.dK kws))) H') : Ext H (upd H' d (.dK kws)) :=
  ⟨fun a xs z => by
    have ne : a ≠ d := fun q => by rw [q, h0] at z; cases z
    rw [upd_ne ne]; exact e.1 a xs (by rw [upd_ne ne]; exact z),
   fun a o u z => by
    have ne : a ≠ d := fun q => by rw [q, h0] at z; cases z
    rw [upd_ne ne]; exact e.2 a o u (by rw [upd_ne ne]; exact z)⟩
theorem ab_unlock (hm : Ab K cl H' m) (h : H' d = some (.frz od (.dK kws))) (hd : m d = some (.rdK kvs)) : Ab K cl (upd H' d (.dK kws)) (mset m d (.dK kvs)) := ⟨fun a x q => by
  have sq : SqM K H' (upd H' d (.dK kws)) := sqm_unlock h
  by_cases e : a = d
  · subst e
    rw [mset_same] at q
    cases q
    obtain ⟨o, ws, q1, q2⟩ := hm.1 a _ hd
    rw [h] at q1
    cases q1
    exact ⟨kws, upd_same, q2.monoQ sq⟩
  · rw [mset_ne e] at q
    exact (hm.1 a x q).monoQ sq (upd_ne e), hm.2⟩
end
/-- a statement, with a dict locked or not -/
def sLk (t : TS3) : TS3 := fun D s m => t D s m ∨ ∃ d kvs, m d = some (.dK kvs) ∧
  t ⟨fun s' m' => m' d = some (.rdK kvs) ∧ D.nx s' (mset m' d (.dK kvs)), fun v m' => m' d = some (.rdK kvs) ∧ D.rt v (mset m' d (.dK kvs)), fun s' m' => m' d = some (.rdK kvs) ∧ D.bk s' (mset m' d (.dK kvs)), fun s' m' => m' d = some (.rdK kvs) ∧ D.ct s' (mset m' d (.dK kvs)), D.ex⟩ s (mset m d (.rdK kvs))
section
variable {X : Cx} {cl : Cl} {W : WX} {st : Stmt} {S : TS3} {t t' : TS}
theorem ps_or (h : PS X st t) (h' : PS X st t') : PS X st (fun D σ H => t D σ H ∨ t' D σ H) := ⟨fun pins s σ H D I q => q.elim (h.run pins s σ H D I) (h'.run pins s σ H D I)⟩
theorem qs_lk (h : QS X cl W st S) : QS X cl W st (sLk S) := by
  refine ⟨fun s m D D' l q => ?_, ?_⟩
  · rcases q with q | ⟨d, kvs, hd, q⟩
    · exact .inl (h.mono _ _ _ _ l q)
    · refine .inr ⟨d, kvs, hd, h.mono _ _ _ _ ?_ q⟩
      exact ⟨fun _ _ ⟨a, b⟩ => ⟨a, l.nx _ _ b⟩, fun _ _ ⟨a, b⟩ => ⟨a, l.rt _ _ b⟩, fun _ _ ⟨a, b⟩ => ⟨a, l.bk _ _ b⟩, fun _ _ ⟨a, b⟩ => ⟨a, l.ct _ _ b⟩, l.ex⟩
  · refine PS.imp (ps_or h.run (L2.ps_lock h.run)) fun D σ H ⟨s, m, hs, hm, q⟩ => ?_
    rcases q with q | ⟨d, kvs, hd, q⟩
    · exact .inl ⟨s, m, hs, hm, q⟩
    · obtain ⟨kws, e, rk⟩ := hm.1 d _ hd
      refine .inr ⟨d, _, e, trivial, fun od => ?_⟩
      have ex : Ext H (upd H d (.frz od (.dK kws))) := ext_dK e
      have up : ∀ {H' : Hp}, Ext (upd H d (.frz od (.dK kws))) H' → H' d = some (.frz od (.dK kws)) := fun e' => e'.2 _ _ _ upd_same
      refine ⟨s, _, hs.mono ex, hm.put ex (o := .rdK kvs) ⟨od, kws, upd_same, rk.mono ex⟩, h.mono _ _ _ _ ⟨?_, ?_, ?_, ?_, ?_⟩ q⟩
      · exact fun s' m' ⟨a, b⟩ σ' H' hs' hm' e' => ⟨up e', b σ' _ (hs'.monoQ (sqm_unlock (up e'))) (ab_unlock hm' (up e') a) (ext_unlock e e')⟩
      · exact fun v m' ⟨a, b⟩ v' H' hv' hm' e' => ⟨up e', b v' _ (hv'.monoQ (sqm_unlock (up e'))) (ab_unlock hm' (up e') a) (ext_unlock e e')⟩
      · exact fun s' m' ⟨a, b⟩ σ' H' hs' hm' e' => ⟨up e', b σ' _ (hs'.monoQ (sqm_unlock (up e'))) (ab_unlock hm' (up e') a) (ext_unlock e e')⟩
      · exact fun s' m' ⟨a, b⟩ σ' H' hs' hm' e' => ⟨up e', b σ' _ (hs'.monoQ (sqm_unlock (up e'))) (ab_unlock hm' (up e') a) (ext_unlock e e')⟩
      · exact (cN_ext ex).ex
/-! ### d.get(k), d.get(k, x) -/
def fGet (o : D) (ds : List D) (m : Mp) (k : K3) : Prop := ∃ p y w, o = .ref p ∧ DG m p y w ∧ ((ds = [y] ∧ k (w.getD .non) m) ∨ ∃ z, ds = [y, z] ∧ k (w.getD z) m)
def rGet : V → List V → Hp → VK → Prop := fun x vs H Q => ∃ a y w, x = .ref a ∧ DGet H a y w ∧ ((vs = [y] ∧ Q (w.getD .non) H) ∨ ∃ z, vs = [y, z] ∧ Q (w.getD z) H)
theorem mt_get (hu : X.A.units + 64 + 2 < cLine) : MtR X "dict.get" rGet := by
  intro pins s σ H x vs v us Q I rx rv ⟨a, y, w, ex, g, h⟩
  subst ex
  cases rx
  rcases h with ⟨rfl, q⟩ | ⟨z, rfl, q⟩
  · obtain ⟨u, rfl, ru⟩ := vals1 rv
    exact d_get1 (by omega) I g ru fun w' s' I' r' => ⟨_, H, I', r', q⟩
  · obtain ⟨u, u', rfl, ru, ru'⟩ := vals2 rv
    exact d_get2 (by omega) I g ru ru' fun w' s' I' r' => ⟨_, H, I', r', q⟩
theorem up_get : UpM X cl fGet rGet := fun H m o v ds vs Q r1 r2 hm ⟨p, y, w, e1, g, h⟩ => by
  subst e1
  have r' : v = .ref p := r1
  subst r'
  rcases h with ⟨rfl, q⟩ | ⟨z, rfl, q⟩
  · obtain ⟨u, rfl, ru⟩ := reps1 r2
    obtain ⟨ov, g', e⟩ := g.up hm ru
    refine ⟨p, u, ov, rfl, g', .inl ⟨rfl, ?_⟩⟩
    rcases e with ⟨rfl, rfl⟩ | ⟨d, w', rfl, rfl, rr⟩
    · exact q _ _ rfl hm (Ext.refl H)
    · exact q _ _ rr hm (Ext.refl H)
  · obtain ⟨u, u', rfl, ru, ru'⟩ := reps2 r2
    obtain ⟨ov, g', e⟩ := g.up hm ru
    refine ⟨p, u, ov, rfl, g', .inr ⟨u', rfl, ?_⟩⟩
    rcases e with ⟨rfl, rfl⟩ | ⟨d, w', rfl, rfl, rr⟩
    · exact q _ _ ru' hm (Ext.refl H)
    · exact q _ _ rr hm (Ext.refl H)
theorem mono_get : MonoM fGet := fun o ds m k k' hk ⟨p, y, w, e1, g, h⟩ => ⟨p, y, w, e1, g, h.elim (fun ⟨a, b⟩ => .inl ⟨a, hk _ _ b⟩) fun ⟨z, a, b⟩ => .inr ⟨z, a, hk _ _ b⟩⟩
/-! ### l.clear() -/
def fClear (o : D) (ds : List D) (m : Mp) (k : K3) : Prop := ∃ q l, o = .ref q ∧ ds = [] ∧ m q = some (.lst l) ∧ k .non (mset m q (.lst []))
theorem up_clear : UpM X cl fClear rClear := fun H m o v ds vs Q r1 r2 hm ⟨q, l, e1, e2, h1, h2⟩ => by
  subst e1 e2
  have r' : v = .ref q := r1
  subst r'
  cases r2
  obtain ⟨us, q1, q2⟩ := hm.1 q _ h1
  exact ⟨q, us, rfl, rfl, q1, h2 _ _ rfl (put_lst hm q1 rfl) (ext_lst q1)⟩
theorem mono_clear : MonoM fClear := fun o ds m k k' hk ⟨q, l, e1, e2, h1, h2⟩ => ⟨q, l, e1, e2, h1, hk _ _ h2⟩
/-! ### sorted -/
def rSrtDI : List V → Hp → VK → Prop := fun xs H Q => ∃ (a : Addr) (kvs : List (Key × V)) (ks : List Int), xs = [.ref a] ∧ Rd H a (.dK kvs) ∧ kvs.map (·.1) = ks.map Sum.inl ∧ ks.length ≤ sizeLine ∧
    ∀ (ys : List Int) (p : Addr), ys.Perm ks → ys.Pairwise (· ≤ ·) → H p = none → Q (.ref p) (upd H p (.lst (ys.map V.int)))
/-- the keys of a dict as they stand, all whole numbers -/
theorem ints_keys : ∀ {us : List Value} {kv : List (Key × Value)} {ns : List Int}, kv.map (·.1) = ns.map Sum.inl → us.length = kv.length → (∀ (j : Nat) (v : Value), us[j]? = some v → ∃ k x, kv[j]? = some (k, x) ∧ keyIs k v = true) → IntsAre us ns
  | [], [], [], _, _, _ => .nil
  | [], [], _ :: _, e, _, _ => nomatch e
  | [], _ :: _, _, _, l, _ => nomatch l
  | _ :: _, [], _, _, l, _ => nomatch l
  | _ :: _, _ :: _, [], e, _, _ => nomatch e
  | u :: us, (c, y) :: kv, n :: ns, e, l, at_ => by
    obtain ⟨rfl, rest⟩ := List.cons.inj e
    obtain ⟨k, x, e1, e2⟩ := at_ 0 u rfl
    cases e1
    obtain ⟨t, rfl⟩ := Value.isInt_shape e2
    exact .cons n t (ints_keys rest (Nat.succ.inj l) fun j v => at_ (j + 1) v)
/-- l.sort() of whole numbers: they stand in order, and nothing else is moved -/
theorem sort_ints {prog : Program} {w : World} {A : Around} {E : Value → Shared → Prop} {s : Shared} {p : Addr} {us : List Value} {ns : List Int} {Q : Value → Shared → Prop} (k : IntsAre us ns) (z : ns.length ≤ sizeLine) (g : s.heap.get? p = some (seqObj "list" us.toArray 0))
    (q : ∀ (h' : Heap) (out : List Value) (ys : List Int) (e : Nat), IntsAre out ys → ys.Perm ns → ys.Pairwise (· ≤ ·) → h'.get? p = some (seqObj "list" out.toArray e) → (∀ b, b < s.heap.objs.size → b ≠ p → h'.get? b = s.heap.get? b) → Q .none { s with heap := h' }) :
    wpAny (model prog w) A (call (.builtin "list.sort") [.ref p]) Q E s := by
  have lim : us.length ≤ sizeLine := k.length ▸ z
  refine wpAny_call_entry PyProof.Rows.slot_list_sort ⟨_, g, rfl⟩ PyProof.Rows.entry_list_sort ?_ (PyProof.Rows.args_list_sort _)
  refine SrtO.list_sort_ord SrtO.swo_int g lim (SrtO.ints_sortable k) fun out o1 o2 => ?_
  obtain ⟨e, ge⟩ := PyProof.Rows.sortedHeap_at (out := out.toArray) g
  obtain ⟨a, b, c⟩ := SrtO.ints_out k o1 o2
  exact ⟨.none, rfl, q _ out _ e a b c ge fun y lt ne => PyProof.Rows.sortedHeap_old ne lt⟩
/-- sorted(d), whole numbers, any number of them -/
theorem cr_srtDI (hc : X.calm = true) : CallR X (.builtin "sorted") rSrtDI := by
  rintro pins s σ H _ us Q I r ⟨a, kvs, ks, rfl, hd, keys, lim, wish⟩
  obtain ⟨-, lo, vs, pairs, dict⟩ := dk_rd I.hok hd
  obtain ⟨ep, at_⟩ := dict.dictAt
  obtain ⟨_, rfl, rfl⟩ := vals1 r
  have k2 : vs.map (·.1) = ks.map Sum.inl := pairs.keys ▸ keys
  have many : vs.length = ks.length := by rw [← List.length_map (f := (·.1)) (as := vs), k2, List.length_map]
  refine Calls.call_function_entry PyProof.Rows.kind_sorted PyProof.Rows.plain_sorted PyProof.Rows.entry_sorted (PyProof.Rows.args_sorted1 _) ?_
  show wpAny _ _ (checkCount "sorted" 1 1 1 >>= fun _ => _) _ _ _
  refine wpAny_bind (wpAny_pure (wpAny_bind (PySem.W.kdu_collect (PySem.W.kdl_dict (knd := mixKind X.prog X.w) (kvs := vs) (ep := ep) lo) (I.ok.hd hc) at_ (many ▸ lim) fun h1 tk acc up told => ?_)))
  have k : IntsAre acc.toList ks := ints_keys k2 (Array.length_toList.trans told.1) fun j v e => told.2 j v (Array.getElem?_toList ▸ e)
  have J : Inv X pins σ H { s with heap := h1, toks := tk } := I.kept up
  refine wpAny_bind (wpAny_newList ?_ (k.length ▸ lim))
  refine wpAny_bind (wpAny_holding (sort_ints k lim (Heap.get?_push_size _ rfl) fun h2 out ys e a b c g old => wpAny_pure ?_))
  have stay : ∀ y o, h1.get? y = some o → h2.get? y = some o := fun y o e => by
    have lt : y < h1.objs.size := Heap.lt_size e
    exact ((old y (by rw [size_push']; exact Nat.lt_succ_of_lt lt) (Nat.ne_of_lt lt)).trans (Heap.get?_push_of_some _ e))
  have new : ObjOk X.prog X.w (upd H h1.objs.size (.lst (ys.map V.int))) h2 h1.objs.size (.lst (ys.map V.int)) := ⟨by rw [List.length_map, b.length_eq]; exact lim, out, e, vals_of_ints a, g⟩
  exact ⟨_, rfl, .ref h1.objs.size, _, J.laid (t' := tk) stay (Nat.le_refl _) new, rfl, wish ys _ b c (J.hok.fresh (Nat.le_refl _))⟩
def fSorted (ds : List D) (m : Mp) (k : K3) : Prop := ∃ p, ds = [.ref p] ∧ ∃ ns : List Int, (RL m p (ns.map D.int) ∨ ∃ kvs : List (Key × D), (m p = some (.dK kvs) ∨ m p = some (.rdK kvs)) ∧ kvs.map (·.1) = ns.map Sum.inl ∧ ns.length ≤ sizeLine) ∧
  ∀ (ys : List Int) (q : Addr), ys.Perm ns → ys.Pairwise (· ≤ ·) → m q = none → k (.ref q) (mset m q (.lst (ys.map D.int)))
theorem reps_int {K : PySem.W.Frag} {H : Hp} : ∀ {ns : List Int}, Reps K H (ns.map D.int) (ns.map V.int)
  | [] => rfl
  | n :: ns => ⟨.int n, _, rfl, rfl, reps_int⟩
theorem q_sorted {p : Pos} {a : Expr} {rest : List Expr} {R : TA3} {pos : Pos} (hc : X.calm = true) (hg : Gl X "sorted") (hm : X.mg "sorted" = none) (ha : QA X cl W (a :: rest) R) (he : starEach (a :: rest) X.env = (false, eval a X.env) :: starEach rest X.env) (hpl : (backTo pos (starEach rest X.env)).any (·.1) = false) :
    QE X cl W (.Call (.Name "sorted" p) (a :: rest) [] pos) (eCB fSorted R) :=
  q_cb (r := fun vs H Q => rSortedI X.K vs H Q ∨ rSrtDI vs H Q) (fun pins s σ H xs us Q I r q => q.elim (cr_sortedI pins s σ H xs us Q I r) (cr_srtDI hc pins s σ H xs us Q I r)) (fun H m ds vs Q r hm ⟨p, e, ns, h1, h2⟩ => by
    subst e
    obtain ⟨v, rfl, rv⟩ := reps1 r
    cases rv
    rcases h1 with h1 | ⟨kvs, h1, h3, h4⟩
    · obtain ⟨ws, q1, q2⟩ := hm.rl h1
      have e := q2.ints
      subst e
      exact .inl ⟨p, ns, rfl, q1, fun ys q g1 g2 g3 => h2 ys q g1 g2 (hm.free g3) _ _ rfl (new_lst hm g3 reps_int) (Ext.new g3)⟩
    · rcases h1 with h1 | h1
      · obtain ⟨kws, q1, q2⟩ := hm.1 p _ h1
        exact .inr ⟨p, kws, ns, rfl, .inl q1, (repk_at q2).trans h3, h4, fun ys q g1 g2 g3 => h2 ys q g1 g2 (hm.free g3) _ _ rfl (new_lst hm g3 reps_int) (Ext.new g3)⟩
      · obtain ⟨o, kws, q1, q2⟩ := hm.1 p _ h1
        exact .inr ⟨p, kws, ns, rfl, .inr ⟨o, q1⟩, (repk_at q2).trans h3, h4, fun ys q g1 g2 g3 => h2 ys q g1 g2 (hm.free g3) _ _ rfl (new_lst hm g3 reps_int) (Ext.new g3)⟩)
    (fun ds m k k' hk ⟨p, e, ns, h1, h2⟩ => ⟨p, e, ns, h1, fun ys q g1 g2 g3 => hk _ _ (h2 ys q g1 g2 g3)⟩) (by decide +kernel) (by decide) (by decide) hg hm ha he hpl
end
end PV

/-! Steps for classes; what the top says of them. -/
namespace PV
open PySem L2 PyProof.Rows
section
variable {A B O V : TE3} {R : TA3} {s : S3} {m : Mp} {k : K3} {x : X3} {p : Addr} {f C : String} {fs : List (Str × D)} {v d : D} {T : Tb} {L i : Nat} {M : MT} {mt : String} {nx bk ct : S3 → Mp → Prop} {rt : K3} {ex : S3 → X3}
theorem x_fld {f : Str} (h : A s m (fun d m1 => ∃ a C fs v, d = .ref a ∧ m1 a = some (.ins C fs) ∧ fs.lookup f = some v ∧ k v m1) x) : eFld f A s m k x := h
theorem xf_fld {f : Str} {Z : D → Prop} (h1 : m p = some (.ins C fs)) (h2 : fs.lookup f = some v) (h : Z v) : ∃ a C fs v, D.ref p = .ref a ∧ m a = some (.ins C fs) ∧ fs.lookup f = some v ∧ Z v := ⟨p, C, fs, v, rfl, h1, h2, h⟩
theorem x_fldS {f : Str} (h : V s m (fun v m1 => O s m1 (fun o m2 => ∃ a C fs, o = .ref a ∧ m2 a = some (.ins C fs) ∧ fs.length < 1000 ∧ nx s (mset m2 a (.ins C (putFD f v fs)))) (ex s)) (ex s)) : sFldS f O V ⟨nx, rt, bk, ct, ex⟩ s m := h
theorem xf_fldS {Z : Addr → String → List (Str × D) → Prop} (h1 : m p = some (.ins C fs)) (h2 : fs.length < 1000) (h : Z p C fs) : ∃ a C fs, D.ref p = .ref a ∧ m a = some (.ins C fs) ∧ fs.length < 1000 ∧ Z a C fs := ⟨p, C, fs, rfl, h1, h2, h⟩
theorem x_meth (h : A s m (fun o m1 => ∃ a C fs i, o = .ref a ∧ m1 a = some (.ins C fs) ∧ fs.lookup (Str.ofString mt) = none ∧ M C mt = some i ∧ R s m1 (fun ds m2 => callS T L i (.ref a :: ds) m2 k x) x) x) : eMeth T L M mt A R s m k x := h
theorem xf_meth {f : Str} {Z : Addr → Nat → Prop} (h1 : m p = some (.ins C fs)) (h2 : fs.lookup f = none) (h3 : M C mt = some i) (h : Z p i) : ∃ a C fs i, D.ref p = .ref a ∧ m a = some (.ins C fs) ∧ fs.lookup f = none ∧ M C mt = some i ∧ Z a i := ⟨p, C, fs, i, rfl, h1, h2, h3, h⟩
theorem x_make (h : R s m (fun ds m1 => ∀ a, m1 a = none → callS T (L - 1) i (.ref a :: ds) (mset m1 a (.ins C [])) (fun d m2 => d = .non ∧ k (.ref a) m2) x) x) : eMake T L i C R s m k x := h
theorem x_lk0 {t : TS3} {D : N3} (h : t D s m) : sLk t D s m := .inl h
theorem x_lk {t : TS3} {d : Addr} {kvs : List (Key × PV.D)} (h1 : m d = some (.dK kvs))
    (h : t ⟨fun s' m' => m' d = some (.rdK kvs) ∧ nx s' (mset m' d (.dK kvs)), fun v m' => m' d = some (.rdK kvs) ∧ rt v (mset m' d (.dK kvs)), fun s' m' => m' d = some (.rdK kvs) ∧ bk s' (mset m' d (.dK kvs)), fun s' m' => m' d = some (.rdK kvs) ∧ ct s' (mset m' d (.dK kvs)), ex⟩ s (mset m d (.rdK kvs))) :
    sLk t ⟨nx, rt, bk, ct, ex⟩ s m := .inr ⟨d, kvs, h1, h⟩
theorem xf_get1 {kvs : List (Key × D)} {y : Key} (h1 : m p = some (.dK kvs) ∨ m p = some (.rdK kvs)) (h : k ((getD kvs y).getD .non) m) : fGet (.ref p) [keyD y] m k := ⟨p, _, _, rfl, ⟨kvs, y, h1, rfl, rfl⟩, .inl ⟨rfl, h⟩⟩
theorem xf_get2 {kvs : List (Key × D)} {y : Key} (h1 : m p = some (.dK kvs) ∨ m p = some (.rdK kvs)) (h : k ((getD kvs y).getD d) m) : fGet (.ref p) [keyD y, d] m k := ⟨p, _, _, rfl, ⟨kvs, y, h1, rfl, rfl⟩, .inr ⟨d, rfl, h⟩⟩
theorem x_tyK {Z : Prop} {kvs : List (Key × D)} (h0 : m p = some (.dK kvs)) (h : Z) : tyD "dict" (.ref p) m ∧ Z := ⟨.inr (.inr ⟨rfl, p, rfl, .inl ⟨kvs, h0⟩⟩), h⟩
theorem xf_clear {l : List D} (h1 : m p = some (.lst l)) (h : k .non (mset m p (.lst []))) : fClear (.ref p) [] m k := ⟨p, l, rfl, rfl, h1, h⟩
theorem xf_sortL {ns : List Int} (h1 : RL m p (ns.map D.int)) (h : ∀ (ys : List Int) (q : Addr), ys.Perm ns → ys.Pairwise (· ≤ ·) → m q = none → k (.ref q) (mset m q (.lst (ys.map D.int)))) : fSorted [.ref p] m k := ⟨p, rfl, ns, .inl h1, h⟩
theorem xf_sortD {kvs : List (Key × D)} {ns : List Int} (h1 : m p = some (.dK kvs) ∨ m p = some (.rdK kvs)) (h2 : kvs.map (·.1) = ns.map Sum.inl) (h3 : ns.length ≤ 100000)
    (h : ∀ (ys : List Int) (q : Addr), ys.Perm ns → ys.Pairwise (· ≤ ·) → m q = none → k (.ref q) (mset m q (.lst (ys.map D.int)))) : fSorted [.ref p] m k := ⟨p, rfl, ns, .inr ⟨kvs, h1, h2, Nat.le_trans h3 (by decide)⟩, h⟩
end
/-! ### what the top says of the classes -/
section
variable {P : Program} {w : World} {K : PySem.W.Frag} {mg : Str → Option Value} {base : Heap} {cl : Cl} {T : Tb} {L i : Nat} {lE lC : List (String × Addr)} {C m : String} {fa Ca : Addr}
theorem clOf_memE {w : World} {n : String} {a : Addr} (hC : ∀ p ∈ lC, p.1 ∉ eNames) (hn : n ∈ eNames) (h : clOf w (lE ++ lC) n = some a) : (n, a) ∈ lE :=
  (List.mem_append.mp (clOf_mem h)).elim id fun e => absurd hn (hC _ e)
theorem clOf_memC {w : World} {n : String} {a : Addr} (hE : ∀ p ∈ lE, p.1 ∈ eNames) (hn : n ∉ eNames) (h : clOf w (lE ++ lC) n = some a) : (n, a) ∈ lC :=
  (List.mem_append.mp (clOf_mem h)).elim (fun e => absurd (hE _ e) hn) id
theorem clk_mk {w : World} {fl : List Str} (hE : ∀ p ∈ lE, p.1 ∈ eNames) (hc : ∀ p ∈ lC, Cls K p.2) (hf : ∀ p ∈ lC, ∀ f ∈ fl, NoAttr K p.2 f) : ClK K (clOf w (lE ++ lC)) fl :=
  ⟨fun C a hn h => hc _ (clOf_memC hE hn h), fun C a f hn h hm => hf _ (clOf_memC hE hn h) f hm⟩
theorem mts_mk {M : MT} {ns : List String} (hE : ∀ p ∈ lE, p.1 ∈ eNames)
    (h : ∀ p ∈ lC, ∀ m ∈ ns, ∀ i, M p.1 m = some i → ∃ fa, PySem.W.findIn K (.ref p.2) (Str.ofString m) = some (some (.ref fa)) ∧ KnM P w K mg base (clOf w (lE ++ lC)) T L i fa) : Mts P w K mg base (clOf w (lE ++ lC)) T L M ns :=
  ⟨fun C a hn hc m hm i e => h _ (clOf_memC hE hn hc) m hm i e⟩
theorem knm_mk {tab : Nat → FSpec} {x qual : Str} {st : Stmt} {fd : FuncData} {ps : List Str} (F : Fun K x qual st fa fd) (hi : PySem.W.isFn K (.ref fa) = true) (hb : Binds K fd ps [])
    (ok : FnOk P w K mg base (L2.CX P w) L fa fd ps (liftSp K cl (tab i) L)) : KnM P w K mg base cl (fun i S => S = tab i) L i fa :=
  ⟨F.kp, hi, fun S e => by subst e; exact ⟨fd, ps, ok, hb⟩⟩
theorem mkC0 (h0 : C ∉ eNames) (h1 : cl C = some Ca) (h2 : mg (Str.ofString C) = some (.ref Ca)) (h3 : Mk K Ca fa) : MkC P w K mg base cl T 0 C i fa := ⟨Ca, h0, h1, h2, h3, fun j h => absurd h (Nat.not_lt_zero j)⟩
theorem mkC1 (h : MkC P w K mg base cl T L C i fa) (k : KnM P w K mg base cl T L i fa) : MkC P w K mg base cl T (L + 1) C i fa :=
  let ⟨Ca, h0, h1, h2, h3, h4⟩ := h.at_
  ⟨Ca, h0, h1, h2, h3, fun j hj => (Nat.lt_or_ge j L).elim (h4 j) fun g => by
    have e : j = L := Nat.le_antisymm (Nat.lt_succ_iff.mp hj) g
    subst e; exact k⟩
theorem cmt_mk {mc : Value} (h1 : mg (Str.ofString C) = some (.ref Ca)) (h2 : PySem.W.readsIn K Ca mc = true) (h3 : PySem.W.specialIn K (.ref Ca) "__getattribute__" = some (some (.builtin "type.__getattribute__")))
    (h4 : PySem.W.findCls K (.ref Ca) mc (Str.ofString m) = some (.val (.ref fa))) (h5 : PySem.W.handedIn (.ref fa) = true) (k : KnM P w K mg base cl T L i fa) : CMt P w K mg base cl T L C m i :=
  ⟨Ca, fa, mc, h1, h2, h3, h4, h5, k⟩
end
end PV

/-! Vaults: their draws, what they hold. -/
namespace PV
open PySem L2 PyProof.Rows
theorem xf_powE {b e : Int} {n : Nat} {m : Mp} {k : K3} (h0 : CPow b n) (he : e = n) (h : k (.int (b ^ n)) m) : fPow (.int b) (.int e) m k := by
  subst he
  exact ⟨b, n, rfl, rfl, h0, h⟩
/-- a row of draws -/
def RowV (row : List D) : Prop := ∃ y w : Int, row = [.int y, .int w] ∧ (w = 0 ∨ (0 ≤ y ∧ y < 999999937))
/-- the keys of a dict by whole numbers -/
def ks : List (Key × D) → List Int
  | [] => []
  | (.inl n, _) :: l => n :: ks l
  | _ :: l => ks l
def AllI (l : List (Key × D)) : Prop := l.map (·.1) = (ks l).map Sum.inl
def srtI (l : List Int) : List Int := l.mergeSort fun a b => decide (a ≤ b)
theorem srtI_perm {l : List Int} : (srtI l).Perm l := List.mergeSort_perm _ _
theorem srtI_sorted {l : List Int} : (srtI l).Pairwise (· ≤ ·) := by
  have h := List.pairwise_mergeSort (le := fun a b : Int => decide (a ≤ b)) (fun a b c h1 h2 => by simp at *; omega) (fun a b => by simp; omega) l
  exact h.imp fun h => by simpa using h
theorem sorted_uniq : ∀ {l r : List Int}, l.Perm r → l.Pairwise (· ≤ ·) → r.Pairwise (· ≤ ·) → l = r
  | [], r, h, _, _ => by rw [List.nil_perm.mp h]
  | a :: l, r, h, h1, h2 => by
    cases r with
    | nil => exact absurd h.length_eq (by simp)
    | cons b r =>
      rw [List.pairwise_cons] at h1 h2
      have ab : a = b := by
        have ha : a ∈ b :: r := h.subset List.mem_cons_self
        have hb : b ∈ a :: l := h.symm.subset List.mem_cons_self
        rcases List.mem_cons.mp ha with e | e
        · exact e
        · rcases List.mem_cons.mp hb with e' | e'
          · exact e'.symm
          · have := h1.1 _ e'; have := h2.1 _ e; omega
      subst ab
      rw [sorted_uniq (List.Perm.cons_inv h) h1.2 h2.2]
theorem srtI_is {l ys : List Int} (h : ys.Perm l) (h1 : ys.Pairwise (· ≤ ·)) : ys = srtI l := sorted_uniq (h.trans srtI_perm.symm) h1 srtI_sorted
theorem ks_len {l : List (Key × D)} (h : AllI l) : (ks l).length = l.length := by simpa using (congrArg List.length h).symm
theorem ks_app {l r : List (Key × D)} : ks (l ++ r) = ks l ++ ks r := by
  induction l with
  | nil => rfl
  | cons p l ih => rcases p with ⟨_ | _, _⟩ <;> simp [ks, ih]
theorem ks_map {l : List (Key × D)} {f : Key × D → Key × D} (hf : ∀ p, (f p).1 = p.1) : ks (l.map f) = ks l := by
  induction l with
  | nil => rfl
  | cons p l ih =>
    rcases hp : f p with ⟨k, d⟩
    have e := hf p
    rw [hp] at e
    rcases p with ⟨_ | _, _⟩ <;> subst e <;> simp [ks, ih, hp]
theorem allI_put {l : List (Key × D)} {n : Int} {d : D} (h : AllI l) : AllI (putD l (.inl n) d) := by
  unfold AllI putD at *
  split
  · rw [ks_map (fun p => by split <;> simp_all), List.map_map, ← h]
    apply List.map_congr_left
    intro p _
    dsimp only [Function.comp]
    split <;> simp_all
  · rw [ks_app, List.map_append, List.map_append, h]; rfl
theorem allI_nil : AllI [] := rfl
/-- a key's worth, if it is there -/
theorem getD_some {κ : Type} [DecidableEq κ] {l : List (κ × D)} {k : κ} (h : k ∈ l.map (·.1)) : ∃ d, getD l k = some d := by
  induction l with
  | nil => cases h
  | cons p l ih =>
    by_cases e : p.1 = k
    · exact ⟨p.2, getD_pos e⟩
    · rw [getD_neg e]
      rcases List.mem_cons.mp h with z | z
      · exact absurd z.symm e
      · exact ih z
theorem ks_get {l : List (Key × D)} {n : Int} (h : AllI l) (hn : n ∈ ks l) : ∃ d, getD l (.inl n) = some d := by
  refine getD_some ?_
  rw [h]
  exact List.mem_map.mpr ⟨n, hn, rfl⟩
/-- the worths, by the numbers given -/
def vl (l : List (Key × D)) (ys : List Int) : List D := ys.map fun n => (getD l (.inl n)).getD .non
/-- what a vault holds -/
structure Vk (l : List (Key × D)) : Prop where
  ai : AllI l
  fine : ∀ n d, getD l (.inl n) = some d → Fine 8 d ∧ d.sz ≤ 3000
theorem vk_nil : Vk [] := ⟨rfl, fun n d h => by rw [getD_nil] at h; cases h⟩
theorem Vk.put {l : List (Key × D)} {n : Int} {d : D} (h : Vk l) (h1 : Fine 8 d) (h2 : d.sz ≤ 3000) : Vk (putD l (.inl n) d) := ⟨allI_put h.ai, fun i e q => by
  rw [getD_put] at q
  split at q
  · cases q; exact ⟨h1, h2⟩
  · exact h.fine i e q⟩
theorem put_put {κ : Type} [DecidableEq κ] {l : List (κ × D)} {k : κ} {v : D} (h : getD l k = some v) : getD (putD l k v) k = some v := by rw [getD_put, if_pos rfl]
theorem xf_neR {n : Nat} {a : D} {m : Mp} {k : K3} (h1 : Fine n a) (hn : n ≤ 64) (h : k (.bl false) m) : fNe a a m k := by
  classical
  exact xf_neF h1 h1 hn (by simpa using h)
theorem eq_list {n : Nat} {l r : List D} {m : Mp} {p q : Addr} (h1 : RL m p l) (h2 : RL m q r) (f1 : ∀ d ∈ l, Fine n d) (f2 : ∀ d ∈ r, Fine n d) (hn : n < 64) :
    DP m (.ref p) (.list (toPs l)) ∧ DP m (.ref q) (.list (toPs r)) ∧ PEq (.list (toPs l)) (.list (toPs r)) ∧ (PyData.eqv (.list (toPs l)) (.list (toPs r)) = true ↔ l = r) := by
  refine ⟨.lst h1 (DPs.of fun d hd => (f1 d hd).dp), .lst h2 (DPs.of fun d hd => (f2 d hd).dp), peq_l ?_, ?_⟩
  · have := depthAll_of fun d hd => (f1 d hd).depth
    show PyData.depthAll (toPs l) + 1 ≤ 64
    omega
  · show PyData.eqv (.list (toPs l)) (.list (toPs r)) = true ↔ _
    simp only [PyData.eqv]
    exact eqvAll_of eqv_iff f1 f2
theorem xf_eqLT {n : Nat} {l : List D} {m : Mp} {k : K3} {p q : Addr} (h1 : RL m p l) (h2 : RL m q l) (f1 : ∀ d ∈ l, Fine n d) (hn : n < 64) (h : k (.bl true) m) : fEq (.ref p) (.ref q) m k := by
  obtain ⟨a, b, c, e⟩ := eq_list h1 h2 f1 f1 hn
  exact ⟨_, _, a, b, c, by rw [e.mpr rfl]; exact h⟩
theorem xf_neLT {n : Nat} {l : List D} {m : Mp} {k : K3} {p q : Addr} (h1 : RL m p l) (h2 : RL m q l) (f1 : ∀ d ∈ l, Fine n d) (hn : n < 64) (h : k (.bl false) m) : fNe (.ref p) (.ref q) m k := by
  obtain ⟨a, b, c, e⟩ := eq_list h1 h2 f1 f1 hn
  exact ⟨_, _, a, b, c, by rw [e.mpr rfl]; exact h⟩
theorem Vk.mem {l : List (Key × D)} {ys : List Int} (h : Vk l) : ∀ d ∈ vl l ys, Fine 8 d := fun d hd => by
  obtain ⟨n, _, rfl⟩ := List.mem_map.mp hd
  cases e : getD l (.inl n) with
  | none => exact Fine.non
  | some w => exact (h.fine n w e).1
theorem any_none {κ : Type} [DecidableEq κ] {l : List (κ × D)} {k : κ} (h : l.any (fun kv => decide (kv.1 = k)) = false) : ∀ p ∈ l, p.1 ≠ k := fun p hp e => by
  have := List.any_eq_false.mp h p hp
  simp [e] at this
/-- put twice -/
theorem put_twice {κ : Type} [DecidableEq κ] {l : List (κ × D)} {k : κ} {v : D} : putD (putD l k v) k v = putD l k v := by
  cases e : l.any (fun kv => decide (kv.1 = k)) with
  | true =>
    have e1 : putD l k v = l.map (fun kv => if kv.1 = k then (kv.1, v) else kv) := by unfold putD; rw [if_pos e]
    have e2 : (putD l k v).any (fun kv => decide (kv.1 = k)) = true := by
      rw [e1, List.any_eq_true]
      obtain ⟨p, hp, hk⟩ := List.any_eq_true.mp e
      have hk : p.1 = k := by simpa using hk
      exact ⟨(p.1, v), List.mem_map.mpr ⟨p, hp, by rw [if_pos hk]⟩, by simpa using hk⟩
    rw [putD, if_pos e2, e1, List.map_map]
    apply List.map_congr_left
    intro p _
    dsimp only [Function.comp]
    by_cases h : p.1 = k <;> simp [h]
  | false =>
    have e1 : putD l k v = l ++ [(k, v)] := by unfold putD; rw [if_neg (by rw [e]; decide)]
    have e2 : (putD l k v).any (fun kv => decide (kv.1 = k)) = true := by rw [e1]; simp
    rw [putD, if_pos e2, e1, List.map_append]
    congr 1
    · refine (List.map_congr_left fun p hp => ?_).trans (List.map_id _)
      rw [if_neg (any_none e p hp)]; rfl
    · simp
/-- like Fine, of any length -/
def FineL : Nat → D → Prop
  | _, .non => True
  | _, .int _ => True
  | _, .str _ => True
  | n + 1, .tup l => ∀ d ∈ l, FineL n d
  | _, _ => False
theorem FineL.le1 {n : Nat} : ∀ {d : D}, FineL n d → FineL (n + 1) d := by
  induction n with
  | zero => intro d h; cases d with
    | tup l => exact h.elim
    | _ => exact h
  | succ n ih => intro d h; cases d with
    | tup l => exact fun e he => ih (h e he)
    | _ => exact h
theorem FineL.le {n k : Nat} {d : D} (h : FineL n d) (e : n ≤ k) : FineL k d := by
  induction e with
  | refl => exact h
  | step _ ih => exact ih.le1
theorem Fine.l {n : Nat} : ∀ {d : D}, Fine n d → FineL n d := by
  induction n with
  | zero => intro d h; cases d with
    | tup l => exact h.elim
    | non => trivial
    | int i => trivial
    | str z => trivial
    | _ => exact h
  | succ n ih => intro d h; cases d with
    | tup l => exact fun e he => ih (h.2 e he)
    | non => trivial
    | int i => trivial
    | str z => trivial
    | _ => exact h
theorem FineL.cases {n : Nat} {d : D} (h : FineL n d) : d = .non ∨ (∃ i, d = .int i) ∨ (∃ z, d = .str z) ∨ ∃ l k, d = .tup l ∧ n = k + 1 ∧ ∀ e ∈ l, FineL k e := by
  cases d with
  | non => exact .inl rfl
  | int i => exact .inr (.inl ⟨i, rfl⟩)
  | str z => exact .inr (.inr (.inl ⟨z, rfl⟩))
  | tup l => cases n with
    | zero => cases h
    | succ k => exact .inr (.inr (.inr ⟨l, k, rfl, rfl, h⟩))
  | _ => cases n <;> cases h
end PV

/-! The exception with fields: made, raised, its fields read. -/
namespace PV
open PySem L2 PyProof.Rows
abbrev f1E : Str := Str.ofString "one"
abbrev f2E : Str := Str.ofString "other"
/-- what the top says of VaultError's own __init__ -/
structure VeF (K : PySem.W.Frag) (a : Addr) (mc : Value) : Prop where
  rd : PySem.W.readsIn K a mc = true
  sp : PySem.W.specialIn K (.ref a) "__getattribute__" = some (some (.builtin "type.__getattribute__"))
  fc : PySem.W.findCls K (.ref a) mc "__init__" = some (.val (.builtin "ValueError.__init__"))
  hd : PySem.W.handedIn (.builtin "ValueError.__init__") = true
section
variable {X : Cx} {cl : Cl} {W : WX} {p p1 p2 pos : Pos} {e : Expr} {es : List Expr} {ta : TA}
/-- ValueError.__init__ called with what is told of the rows behind it -/
theorem ve_with {pins : List (Addr × Obj)} {σ : L2.St} {H : Hp} {s : Shared} {Q : VK} (ha : PA X (e :: es) ta) (hst : starEach (e :: es) X.env = (false, eval e X.env) :: starEach es X.env) (hpl : (backTo pos (starEach es X.env)).any (·.1) = false) (J : Inv X pins σ H s) (h : tVeI X.K ta σ H Q) :
    wpAny (model X.prog X.w) X.A (callWith pos (.builtin "ValueError.__init__") [] (backTo pos (starEach (e :: es) X.env)) []) (EP X pins σ Q) X.xe s := by
  refine PyProof.Rows.callWith_method1 (wpAny_mono (ha.run pos pins s σ H _ J h) ?_ fun _ _ => id) hst hpl
  rintro us s1 ⟨_, H1, I1, r, a, C, ws, rfl, few, T, ea, q⟩
  match us, r with
  | _ :: _, .cons ra rr =>
    cases ra
    exact oinit_ok T I1 ea (by rw [← Paired.length rr, sizeLine_eq]; omega) fun _ I2 => ⟨_, H1, I2, show RelV .non .none from rfl, q⟩
theorem pe_veC {c : Str} {Ca : Addr} {mc : Value} {pl : Sem Bool} (hg : Gl X c) (hdb : (c == ("__debug__" : Str)) = false) (hm : X.mg c = some (.ref Ca)) (V : VeF X.K Ca mc) (ha : PA X (e :: es) ta)
    (ht : eval (.Call (.Attribute (.Name c p1) "__init__" p2) (e :: es) [] pos) X.env = (do let ov ← eval (.Name c p1) X.env; standAt p2.atName; let (f, first) ← holding [ov] (getMethod ov "__init__" pl); callWith pos f first (backTo pos (starEach (e :: es) X.env)) (backToKw pos (keywordEach [] X.env))))
    (hst : starEach (e :: es) X.env = (false, eval e X.env) :: starEach es X.env) (hpl : (backTo pos (starEach es X.env)).any (·.1) = false) :
    PE X (.Call (.Attribute (.Name c p1) "__init__" p2) (e :: es) [] pos) (tVeI X.K ta) :=
  ⟨fun pins s σ H Q I h => PySem.W.methodCall_KW (pl := pl) (ld_glob I hg hm (PySem.W.method_cls I.kIn V.sp (PySem.W.cls_value I.kIn V.rd V.fc V.hd (ve_with ha hst hpl (I.tok _) h))) hdb) ht⟩
/-- what the top says of the class with fields -/
structure CxF (K : PySem.W.Frag) (C : Addr) : Prop where
  ox : OexC K C
  n1 : PySem.W.findIn K (.ref C) f1E = some none
  n2 : PySem.W.findIn K (.ref C) f2E = some none
def fsE (y z : V) : List (Str × V) := [(f2E, z), (f1E, y)]
/-- its __init__ -/
def spCl (K : PySem.W.Frag) : Sp := fun vs H Q _ => ∃ (a C : Addr) (y z : V), vs = [.ref a, y, z] ∧ CxF K C ∧ H a = some (exo a C none) ∧
  ∀ dx, H dx = none → dx ≠ a → Q .non (upd (upd (upd H dx (exd dx [(f1E, y)])) a (exo a C (some dx))) dx (exd dx (fsE y z)))
/-- what is known of its def -/
structure ClI (P : Program) (w : World) (K : PySem.W.Frag) (mg : Str → Option Value) (base : Heap) (cl : Cl) : Prop where
  at_ : ∀ C, cl "Clash" = some C → CxF K C ∧ ∃ fI fd ps, PySem.W.findIn K (.ref C) "__init__" = some (some (.ref fI)) ∧ PySem.W.typeIn K (.ref fI) = some (.type "function") ∧ FnOk P w K mg base (L2.CX P w) 1 fI fd ps (spCl K) ∧ Binds K fd ps []
/-- raise Clash(one, other) -/
def sRsC (L : Nat) (R : TA3) : TS3 := fun D s m => 2 ≤ L ∧ R s m (fun ds m1 => ∃ y z, ds = [y, z] ∧ ∀ dd, m1 dd = none → D.ex s ⟨"Clash", some dd⟩ (mset m1 dd (.xd [(f2E, z), (f1E, y)]))) (D.ex s)
theorem heap_end {H1 : Hp} {a C dx : Addr} {y z : V} (ha : H1 a = none) (hd : dx ≠ a) :
    upd (del (upd (upd (upd (upd H1 a (exo a C none)) dx (exd dx [(f1E, y)])) a (exo a C (some dx))) dx (exd dx (fsE y z))) a) dx (.xd (fsE y z)) = upd H1 dx (.xd (fsE y z)) := by
  funext b
  by_cases h1 : b = dx
  · subst h1; rw [upd_same, upd_same]
  · rw [upd_ne h1, upd_ne h1]
    by_cases h2 : b = a
    · subst h2; rw [del_same, ha]
    · rw [del_ne h2, upd_ne h1, upd_ne h2, upd_ne h1, upd_ne h2]
theorem qs_raiseC {L : Nat} {R : TA3} {c : Str} {p3 : Pos} (EK : ExK X.K X.mg cl) (CI : ClI X.prog X.w X.K X.mg X.base cl) (tk : Takes X W) (hc : X.calm = true) (hcl : ∃ a, cl "Clash" = some a) (hr : Room L X.A) (hx : c = Str.ofString "Clash") (hg : Gl X c) (hdb : (c == ("__debug__" : Str)) = false) (ha : QA X cl W (e :: es) R)
    (hst : starEach (e :: es) X.env = (false, eval e X.env) :: starEach es X.env) (hpl : (backTo p3 (starEach es X.env)).any (·.1) = false) :
    QS X cl W (.Raise (some (.Call (.Name c p) (e :: es) [] p3)) none pos) (sRsC L R) := by
  obtain ⟨C, e1⟩ := hcl
  obtain ⟨CF, fI, fd, ps, i1, i2, i3, i4⟩ := CI.at_ C e1
  have e2 := EK.at_ "Clash" (by decide) C e1
  have hmg : X.mg c = some (.ref C) := by rw [hx]; exact e2
  refine ⟨fun s m D D' le ⟨h2, q⟩ => ⟨h2, ha.mono _ _ _ _ _ _ (fun ds m1 ⟨y, z, h3, h4⟩ => ⟨y, z, h3, fun dd hd => le.ex _ _ _ (h4 dd hd)⟩) (fun _ _ z => le.ex _ _ _ z) q⟩, ⟨fun pins s0 σ H D I h => ?_⟩⟩
  obtain ⟨s, m, hs, hm, h2, q⟩ := h
  refine (L2.ps_raise hc tk (pmk_oex (k := 1) CF.ox i1 i2 i3 (hr.mono h2) i4 .nil (by rintro pins σ H s e s' I z; obtain ⟨_, _, _, _, _, _, _, _, _, _, _, _, z⟩ := z; exact z.elim) hg hmg ha.run hdb hst hpl)).run pins s0 σ H D I ?_
  refine ⟨s, m, hs, hm, ha.mono _ _ _ _ _ _ (fun ds m1 ⟨y, z, h3, h4⟩ vs H1 r1 hm1 ex1 => ?_) (fun _ _ z => ex_cX hs z) q⟩
  subst h3
  obtain ⟨u, v, rfl, ru, rv⟩ := reps2 r1
  refine ⟨by simp, fun a na => ⟨a, C, u, v, rfl, CF, upd_same, fun dx nd ne => ⟨rfl, dx, fsE u v, ?_, upd_same, ?_, ?_⟩⟩⟩
  · rw [upd_ne (Ne.symm ne), upd_same]
  · rw [upd_ne ne] at nd; exact nd
  · rw [upd_ne ne] at nd
    rw [heap_end na ne]
    have en : Ext H1 (upd H1 dx (.xd (fsE u v))) := Ext.new nd
    exact h4 dx (hm1.free nd) σ _ _ _ (hs.mono (ex1.trans en)) ⟨C, show "Clash" ∈ eNames from by decide, e1, rfl, rfl⟩ (hm1.new nd ⟨fsE u v, upd_same, ⟨v, _, rfl, rv.mono en, ⟨u, _, rfl, ru.mono en, rfl⟩⟩⟩) (ex1.trans en)
/-! ### its fields -/
def eXf (f : Str) (A : TE3) : TE3 := fun s m k x => A s m (fun d m1 => ∃ a dd fs v, d = .ref a ∧ m1 a = some (.exc "Clash" (some dd)) ∧ m1 dd = some (.xd fs) ∧ fs.lookup f = some v ∧ k v m1) x
theorem q_xf {A : TE3} {o : Expr} {f : Str} (EK : ExK X.K X.mg cl) (CI : ClI X.prog X.w X.K X.mg X.base cl) (hf : f = f1E ∨ f = f2E) (ha : QE X cl W o A) (hb : attributeBase o f X.env (eval o X.env) = eval o X.env) : QE X cl W (.Attribute o f pos) (eXf f A) := by
  refine ⟨fun s m k k' x x' hk hx q => ha.mono _ _ _ _ _ _ (fun d m1 ⟨a, dd, fs, v, h1, h2, h3, h4, h5⟩ => ⟨a, dd, fs, v, h1, h2, h3, h4, hk _ _ h5⟩) hx q, ⟨fun pins s0 σ H Q I h => ?_⟩⟩
  obtain ⟨s, m, hs, hm, h⟩ := h
  have hO : upE X.K cl W A σ H (fun v H1 => ∃ d m1, Rep X.K H1 d v ∧ Ab X.K cl H1 m1 ∧ Ext H H1 ∧ ∃ a dd fs w, d = .ref a ∧ m1 a = some (.exc "Clash" (some dd)) ∧ m1 dd = some (.xd fs) ∧ fs.lookup f = some w ∧ cE X.K cl H Q w m1) :=
    ⟨s, m, hs, hm, ha.mono _ _ _ _ _ _ (fun d m1 z v H1 r hm1 e1 => ⟨d, m1, r, hm1, e1, z⟩) (fun _ _ z => z) h⟩
  refine attr_of hb (thn (ha.run.run pins s0 σ H _ I hO) fun u s1 ⟨v, H1, I1, rv, d, m1, r, hm1, e1, a, dd, fs, w, hd, h2, h3, h4, h5⟩ => ?_)
  subst hd
  have r' : v = .ref a := r
  subst r'
  obtain rfl : u = Value.ref a := rv
  obtain ⟨Ca, hn, hc, hh⟩ := hm1.1 a _ h2
  obtain ⟨fvs, hx, rk⟩ := hm1.1 dd _ h3
  obtain ⟨w', l', rw'⟩ := repk_lookS rk h4
  have CF := (CI.at_ Ca hc).1
  have T := (EK.ok "Clash" hn Ca hc).xf
  have hno : PySem.W.findIn X.K (.ref Ca) f = some none := by
    rcases hf with rfl | rfl
    · exact CF.n1
    · exact CF.n2
  obtain ⟨od, z, there, reads, rz⟩ := xd_field I1 hx l'
  obtain ⟨oe, g, kind, no, dict⟩ := exo_obj I1 hh
  exact HandSPX.exc_get I1.kIn ⟨g, kind, no, by rw [dict]; exact there⟩ T.ga T.gg T.exC (PySem.W.findObj_own T.hdC hno rfl reads) (handed_of rz) ⟨w', H1, I1.tok _, rz, h5 _ _ rw' hm1 e1⟩
end
section
variable {A : TE3} {R : TA3} {s : S3} {m : Mp} {k : K3} {x : X3} {L : Nat} {nx bk ct : S3 → Mp → Prop} {rt : K3} {ex : S3 → X3}
theorem x_rsC (h0 : 2 ≤ L) (h : R s m (fun ds m1 => ∃ y z, ds = [y, z] ∧ ∀ dd, m1 dd = none → ex s ⟨"Clash", some dd⟩ (mset m1 dd (.xd [(f2E, z), (f1E, y)]))) (ex s)) : sRsC L R ⟨nx, rt, bk, ct, ex⟩ s m := ⟨h0, h⟩
theorem x_xf {f : Str} (h : A s m (fun d m1 => ∃ a dd fs v, d = .ref a ∧ m1 a = some (.exc "Clash" (some dd)) ∧ m1 dd = some (.xd fs) ∧ fs.lookup f = some v ∧ k v m1) x) : eXf f A s m k x := h
theorem xf_xf {f : Str} {Z : D → Prop} {a dd : Addr} {fs : List (Str × D)} {v : D} (h1 : m a = some (.exc "Clash" (some dd))) (h2 : m dd = some (.xd fs)) (h3 : fs.lookup f = some v) (h : Z v) : ∃ a' dd fs v, D.ref a = .ref a' ∧ m a' = some (.exc "Clash" (some dd)) ∧ m dd = some (.xd fs) ∧ fs.lookup f = some v ∧ Z v := ⟨a, dd, fs, v, rfl, h1, h2, h3, h⟩
end
end PV

/-! Displays of dicts. -/
namespace PV
open PySem L2 PyProof.Rows
def tDs : List (TE3 × TE3) → S3 → Mp → (List (D × D) → Mp → Prop) → X3 → Prop
  | [], _, m, k, _ => k [] m
  | (a, b) :: r, s, m, k, x => a s m (fun u m1 => b s m1 (fun v m2 => tDs r s m2 (fun ps m3 => k ((u, v) :: ps) m3) x) x) x
def mergeD (l r : List (Key × D)) : List (Key × D) := r.foldl (fun acc kv => putD acc kv.1 kv.2) l
/-- {k: v, ..} -/
def eDs (T : List (TE3 × TE3)) : TE3 := fun s m k x => ∀ p, m p = none → tDs T s (mset m p (.dK [])) (fun vs m2 => m2 p = some (.dK []) ∧ ∃ kvs : List (Key × D), vs = kvs.map (fun e => (keyD e.1, e.2)) ∧ kvs.length ≤ 15 ∧ k (.ref p) (mset m2 p (.dK (mergeD [] kvs)))) x
inductive QPs (X : Cx) (cl : Cl) (W : WX) : List (Option Expr) → List Expr → List (TE3 × TE3) → Prop
  | nil : QPs X cl W [] [] []
  | cons {k v : Expr} {ks : List (Option Expr)} {vs : List Expr} {A B : TE3} {T : List (TE3 × TE3)} (ha : QE X cl W k A) (hb : QE X cl W v B) (r : QPs X cl W ks vs T) : QPs X cl W (some k :: ks) (v :: vs) ((A, B) :: T)
section
variable {X : Cx} {cl : Cl} {W : WX} {ks : List (Option Expr)} {vs : List Expr} {T : List (TE3 × TE3)} {pos : Pos}
def RepP (K : PySem.W.Frag) (H : Hp) : List (D × D) → List (V × V) → Prop
  | [], qs => qs = []
  | (a, b) :: r, qs => ∃ x y q, qs = (x, y) :: q ∧ Rep K H a x ∧ Rep K H b y ∧ RepP K H r q
theorem tDs_mono (h : QPs X cl W ks vs T) : ∀ {s : S3} {m : Mp} {k k' : List (D × D) → Mp → Prop} {x x' : X3}, (∀ d m, k d m → k' d m) → (∀ e m, x e m → x' e m) → tDs T s m k x → tDs T s m k' x' := by
  induction h with
  | nil => exact fun hk _ h => hk _ _ h
  | cons ha hb r ih => exact fun hk hx h => ha.mono _ _ _ _ _ _ (fun u m1 z => hb.mono _ _ _ _ _ _ (fun v m2 y => ih (fun ps m3 w => hk _ _ w) hx y) hx z) hx h
theorem tDs_up (h : QPs X cl W ks vs T) : ∃ trs, PPs X pos ks vs trs ∧ ∀ (s : S3) (m : Mp) (σ : L2.St) (H : Hp) (Q : List (V × V) → Hp → Prop), RepS X.K H s σ → Ab X.K cl H m →
    tDs T s m (fun ps m1 => ∀ qs H1, RepP X.K H1 ps qs → Ab X.K cl H1 m1 → Ext H H1 → Q qs H1) (cX X.K cl W H σ) → tPairs trs σ H Q := by
  induction h with
  | nil => exact ⟨[], pps_nil, fun s m σ H Q hs hm h => h [] H rfl hm (Ext.refl H)⟩
  | @cons k v ks vs A B T ha hb r ih =>
    obtain ⟨trs, i1, i2⟩ := ih
    refine ⟨_, pps_cons ha.run hb.run i1, fun s m σ H Q hs hm h => ?_⟩
    refine ⟨s, m, hs, hm, ha.mono _ _ _ _ _ _ (fun u m1 z x H1 rx hm1 e1 => ?_) (fun _ _ z => z) h⟩
    refine ⟨s, m1, hs.mono e1, hm1, hb.mono _ _ _ _ _ _ (fun v m2 z y H2 ry hm2 e2 => ?_) (fun _ _ z => cX_ext e1 z) z⟩
    refine i2 s m2 σ H2 _ (hs.mono (e1.trans e2)) hm2 (tDs_mono r (fun ps m3 z qs H3 rq hm3 e3 => ?_) (fun _ _ z => cX_ext (e1.trans e2) z) z)
    exact z _ H3 ⟨x, y, qs, rfl, rx.mono (e2.trans e3), ry.mono e3, rq⟩ hm3 ((e1.trans e2).trans e3)
theorem repk_put {K : PySem.W.Frag} {H : Hp} {k : Key} {d : D} {v : V} (q : Rep K H d v) {kvs : List (Key × D)} {kws : List (Key × V)} (h : RepK K H kvs kws) : RepK K H (putD kvs k d) (putK kws k v) := RepK.put h q
theorem repk_merge {K : PySem.W.Frag} {H : Hp} : ∀ {more : List (Key × D)} {mw : List (Key × V)}, RepK K H more mw → ∀ {l : List (Key × D)} {lw : List (Key × V)}, RepK K H l lw → RepK K H (mergeD l more) (mergeK lw mw)
  | [], _, h, _, _, q => by cases h; exact q
  | (k, d) :: r, _, h, l, lw, q => by
    obtain ⟨v, r', rfl, h2, h3⟩ := h
    exact repk_merge h3 (repk_put h2 q)
theorem repP_keys {K : PySem.W.Frag} {H : Hp} : ∀ {kvs : List (Key × D)} {qs : List (V × V)}, RepP K H (kvs.map fun e => (keyD e.1, e.2)) qs → ∃ kws : List (Key × V), qs = kws.map (fun e => (kV e.1, e.2)) ∧ RepK K H kvs kws ∧ kws.length = kvs.length
  | [], _, h => by cases h; exact ⟨[], rfl, rfl, rfl⟩
  | (k, d) :: r, _, h => by
    obtain ⟨x, y, q, rfl, h1, h2, h3⟩ := h
    obtain ⟨kws, rfl, i2, i3⟩ := repP_keys h3
    have ex := rep_key h1
    subst ex
    exact ⟨(k, y) :: kws, rfl, ⟨y, kws, rfl, h2, i2⟩, by simp [i3]⟩
theorem q_dis (h : QPs X cl W ks vs T) (hall : ks.all (·.isSome) = true) (hl : ks.length = vs.length) (h0 : ks ≠ []) (h15 : ks.length ≤ 15) : QE X cl W (.Dict ks vs pos) (eDs T) := by
  obtain ⟨trs, i1, i2⟩ := tDs_up (pos := pos) h
  refine ⟨fun s m k k' x x' hk hx q p hp => tDs_mono h (fun ps m2 ⟨a, kvs, b, c, d⟩ => ⟨a, kvs, b, c, hk _ _ d⟩) hx (q p hp), PE.imp (pe_disp i1 hall hl h0 h15) fun σ H Q ⟨s, m, hs, hm, q⟩ p hp => ?_⟩
  have en : Ext H (upd H p (.dK [])) := Ext.new hp
  refine i2 s (mset m p (.dK [])) σ _ _ (hs.mono en) (hm.new hp ⟨[], upd_same, rfl⟩) (tDs_mono h (fun ps m2 z qs H1 rq hm1 e1 => ?_) (fun _ _ z => cX_ext en z) (q p (hm.free hp)))
  obtain ⟨a, kvs, rfl, c, d⟩ := z
  obtain ⟨kws, rfl, i3, i4⟩ := repP_keys rq
  obtain ⟨w0, b1, b2⟩ := hm1.1 p _ a
  cases b2
  have ex : Ext H1 (upd H1 p (.dK (mergeK [] kws))) := ext_dK b1
  refine ⟨b1, kws, rfl, by omega, ?_⟩
  exact d _ _ rfl (hm1.put ex ⟨_, upd_same, (repk_merge i3 (l := []) (lw := []) rfl).mono ex⟩) ((en.trans e1).trans ex)
end
section
variable {A B : TE3} {T : List (TE3 × TE3)} {s : S3} {m : Mp} {k : K3} {x : X3}
theorem x_dis (h : ∀ p, m p = none → tDs T s (mset m p (.dK [])) (fun vs m2 => m2 p = some (.dK []) ∧ ∃ kvs : List (Key × D), vs = kvs.map (fun e => (keyD e.1, e.2)) ∧ kvs.length ≤ 15 ∧ k (.ref p) (mset m2 p (.dK (mergeD [] kvs)))) x) : eDs T s m k x := h
theorem x_ds1 {kk : List (D × D) → Mp → Prop} (h : A s m (fun u m1 => B s m1 (fun v m2 => tDs T s m2 (fun ps m3 => kk ((u, v) :: ps) m3) x) x) x) : tDs ((A, B) :: T) s m kk x := h
theorem x_ds0' {kk : List (D × D) → Mp → Prop} (h : kk [] m) : tDs [] s m kk x := h
end
end PV

/-! Many cells that stand at once, each by its place. -/
namespace PV
open PySem L2 PyProof.Rows
abbrev Cs := List (Addr × O)
structure Cells (m : Mp) (cs : Cs) : Prop where
  nd : (cs.map (·.1)).Nodup
  at_ : ∀ p ∈ cs, m p.1 = some p.2
section
variable {m m' : Mp} {cs : Cs} {a b : Addr} {o o' u : O} {ps : List Addr}
theorem Cells.fr (h : Cells m cs) (f : Fr ps m m') (hp : ∀ p ∈ cs, p.1 ∉ ps) : Cells m' cs := ⟨h.nd, fun p q => f.at (hp p q) (h.at_ p q)⟩
theorem Cells.fr0 (h : Cells m cs) (f : Fr [] m m') : Cells m' cs := h.fr f fun _ _ => ni_nil
theorem Cells.get (h : Cells m cs) (i : Nat) (e : cs[i]? = some (a, o)) : m a = some o := h.at_ _ (List.mem_of_getElem? e)
theorem Cells.ne (h : Cells m cs) (i j : Nat) (ei : cs[i]? = some (a, o)) (ej : cs[j]? = some (b, u)) (ij : i ≠ j) : a ≠ b := fun e => by
  have hi : (cs.map (·.1))[i]? = some a := by rw [List.getElem?_map, ei]; rfl
  have hj : (cs.map (·.1))[j]? = some b := by rw [List.getElem?_map, ej]; rfl
  subst e
  have li := (List.getElem?_eq_some_iff.mp hi).1
  exact ij ((List.getElem?_inj li h.nd).mp (hi.trans hj.symm))
theorem Cells.set1 (h : Cells m cs) (i : Nat) (e : cs[i]? = some (a, o)) (f : Fr [a] m m') (h' : m' a = some o') : Cells m' (cs.set i (a, o')) := by
  have hl := (List.getElem?_eq_some_iff.mp e).1
  have hm : (cs.set i (a, o')).map (·.1) = cs.map (·.1) := by
    rw [List.map_set]
    apply List.ext_getElem?
    intro j
    rw [List.getElem?_set]
    split
    · rename_i ij
      subst ij
      rw [List.length_map, if_pos hl, List.getElem?_map, e]; rfl
    · rfl
  refine ⟨by rw [hm]; exact h.nd, fun p hp => ?_⟩
  obtain ⟨j, hj⟩ := List.mem_iff_getElem?.mp hp
  rw [List.getElem?_set] at hj
  split at hj
  · cases hj
    exact h'
  · rename_i ij
    have hne : p.1 ≠ a := Ne.symm (h.ne i j e (show cs[j]? = some (p.1, p.2) from hj) ij)
    exact f.at (ni_cons hne ni_nil) (h.at_ p (List.mem_of_getElem? hj))
theorem Cells.set2 (h : Cells m cs) (i j : Nat) {u' : O} (e : cs[i]? = some (a, o)) (e' : cs[j]? = some (b, u)) (ij : i ≠ j) (f : Fr [a, b] m m') (h1 : m' a = some o') (h2 : m' b = some u') : Cells m' ((cs.set i (a, o')).set j (b, u')) := by
  have ab := h.ne i j e e' ij
  have g1 : Cells (mset m a o') (cs.set i (a, o')) := h.set1 i e (Fr.set (Fr.refl _ _) (Or.inl in_h)) mset_same
  have e2 : (cs.set i (a, o'))[j]? = some (b, u) := by rw [List.getElem?_set_ne ij]; exact e'
  have g2 : Cells (mset (mset m a o') b u') ((cs.set i (a, o')).set j (b, u')) := g1.set1 j e2 (Fr.set (Fr.refl _ _) (Or.inl in_h)) mset_same
  refine ⟨g2.nd, fun p hp => ?_⟩
  have q := g2.at_ p hp
  by_cases pb : p.1 = b
  · rw [pb, mset_same] at q; rw [pb, h2]; exact q
  · rw [mset_ne pb] at q
    by_cases pa : p.1 = a
    · rw [pa, mset_same] at q; rw [pa, h1]; exact q
    · rw [mset_ne pa] at q
      exact f.at (ni_cons pa (ni_cons pb ni_nil)) q
theorem Cells.perm {cs' : Cs} (h : Cells m cs) (p : cs.Perm cs') : Cells m cs' := ⟨(p.map _).nodup_iff.mp h.nd, fun q hq => h.at_ q (p.symm.subset hq)⟩
theorem Cells.push (h : Cells m cs) (n : m a = none) : Cells (mset m a o) ((a, o) :: cs) := by
  refine ⟨?_, fun p hp => ?_⟩
  · rw [List.map_cons, List.nodup_cons]
    refine ⟨fun hm => ?_, h.nd⟩
    obtain ⟨p, hp, e⟩ := List.mem_map.mp hm
    have := h.at_ p hp
    rw [e, n] at this
    cases this
  · rcases List.mem_cons.mp hp with e | e
    · subst e; exact mset_same
    · exact (mset_ne (ne_none (h.at_ p e) n)).trans (h.at_ p e)
end
end PV

/-! list(reversed(a list)). -/
namespace PV
open PySem L2 PyProof.Rows
theorem in_pair {α : Type} {b u v : α} (h : b ∈ [u, v]) : b = u ∨ b = v := by simpa using h
section
variable {prog : Program} {w : World} {A : Around} {E : Value → Shared → Prop} {s : Shared} {it l S : Addr} {i : Int} {items : Array Value}
/-- an iterator from the back tells no size ahead -/
theorem back_hint {Q : Bool → Shared → Prop} (hit : s.heap.IsRevIter it l i) (q : Q false s) : wpAny (model prog w) A (Builtin.List.listLengthHint (.ref it)) Q E s := by
  have kind : s.TypeIs (.ref it) "list_reverseiterator" := hit.typeIs
  have name : splitId "list_reverseiterator.__length_hint__" = some ("list_reverseiterator", "__length_hint__") := by decide +kernel
  have own : wpAny (model prog w) A (isInstance (.ref it) (.type "list_reverseiterator")) (fun b s1 => b = true ∧ s1 = s) E s := wpAny_isInstance (b := true) kind (by rw [isSubtype_type]; kernel_rfl) ⟨rfl, rfl⟩
  unfold Builtin.List.listLengthHint
  refine wpAny_bind (wpAny_specialOf kind RT.nolen_lri (wpAny_bind (wpAny_specialOf kind RT.hint_lri ?_)))
  generalize ef : "list_reverseiterator.__length_hint__" = f at *
  simp only [name]
  refine wpAny_bind (wpAny_mono own (fun b s1 z => ?_) fun _ _ z => z)
  obtain ⟨rfl, rfl⟩ := z
  subst ef
  exact wpAny_pure q
/-- the things of a list from its end -/
abbrev Back (items : Array Value) (j : Nat) (v : Value) : Prop := items[items.size - 1 - j]? = some v
/-- the list S, empty yet, takes all that an iterator over l from its end tells -/
theorem back_fill {R : Result → Shared → Prop} {c : Nat} (hh : A.handled = none) (g : s.heap.get? S = some { cls := .type "list", data := .seq #[] c }) (hit : s.heap.IsRevIter it l ((items.size : Int) - 1)) (hl : s.heap.IsList l items) (apart : l ≠ it ∧ S ≠ it ∧ S ≠ l) (lim : items.size ≤ sizeLine)
    (fin : ∀ (h' : Heap) (tk : Nat) (acc : Array Value) (c' : Nat), (∀ b o, b ≠ S → b ≠ it → s.heap.get? b = some o → h'.get? b = some o) → h'.get? S = some { cls := .type "list", dict := none, data := .seq acc c', slots := #[] } → ItemsOf (Back items) acc items.size → R (.ok (.ret .none)) { s with heap := h', toks := tk }) :
    wpAny (model prog w) A.in1 (Builtin.List.listExtendWith (.ref S) (.ref it) .none) (fun f s' => match f with | .done f => R (.ok f) s' | .again c' => c'.quiet = true ∧ codeAny (model prog w) A c' R s') (fun e s' => R (.error e) s') s := by
  have kind : s.TypeIs (.ref it) "list_reverseiterator" := hit.typeIs
  have walk := (Walks.listRev (prog := prog) (w := w) (A := A.in1) hh it l apart.1 items).toS
  have out : S ∉ [it, l] := fun z => (in_pair z).elim apart.2.1 apart.2.2
  have start : s.heap.IsRevIter it l ((items.size : Int) - 1 - ((0 : Nat) : Int)) ∧ s.heap.IsList l items := ⟨by rw [show (items.size : Int) - 1 - ((0 : Nat) : Int) = (items.size : Int) - 1 by omega]; exact hit, hl⟩
  have two : Builtin.List.listSameRef (.ref S) (.ref it) = false := by simp [Builtin.List.listSameRef, apart.2.1]
  unfold Builtin.List.listExtendWith
  refine wpAny_bind (wpAny_typeOf kind ?_)
  rw [two, if_neg (by decide)]
  refine wpAny_bind (wpAny_pyIter_revIter hit (wpAny_bind (wpAny_holding (back_hint hit ?_))))
  rw [if_neg (by decide)]
  refine wpAny_pure ⟨plainId_quiet F.plain_extend_loop _, ?_⟩
  refine codeAny_extend_loopS walk lim S out .none items.size 0 s #[] c rfl (Nat.zero_le _) ⟨Nat.zero_le _, start⟩ g (ItemsOf.nil _) fun s' acc c' moved full told => ?_
  rw [Moved.eq_with moved]
  exact fin s'.heap s'.toks acc c' (fun b o b1 b2 e => moved.heap b o (fun z => (List.mem_cons.mp z).elim b1 fun z => b2 (List.mem_singleton.mp z)) e) full told
theorem items_none {A : Around} {Q : Array Value → Shared → Prop} {c : Nat} (g : s.heap.get? S = some { cls := .type "list", data := .seq #[] c }) (q : Q #[] s) : wpAny (model prog w) A (Builtin.List.listItems (.ref S)) Q E s := by
  unfold Builtin.List.listItems
  exact wpAny_bind (wpAny_seqItems g rfl (wpAny_pure q))
theorem back_init {R : Result → Shared → Prop} (hh : A.handled = none) (g : s.heap.get? S = some { cls := .type "list", data := .seq #[] }) (hit : s.heap.IsRevIter it l ((items.size : Int) - 1)) (hl : s.heap.IsList l items) (apart : l ≠ it ∧ S ≠ it ∧ S ≠ l) (lim : items.size ≤ sizeLine)
    (fin : ∀ (h' : Heap) (tk : Nat) (acc : Array Value) (c' : Nat), (∀ b o, b ≠ S → b ≠ it → s.heap.get? b = some o → h'.get? b = some o) → h'.get? S = some { cls := .type "list", dict := none, data := .seq acc c', slots := #[] } → ItemsOf (Back items) acc items.size → R (.ok (.ret .none)) { s with heap := h', toks := tk }) :
    wpAny (model prog w) A.in1 (Builtin.«list.__init__» ⟨[.ref S, .ref it], []⟩) (fun f s' => match f with | .done f => R (.ok f) s' | .again c' => c'.quiet = true ∧ codeAny (model prog w) A c' R s') (fun e s' => R (.error e) s') s := by
  have code : Builtin.«list.__init__» ⟨[.ref S, .ref it], []⟩ = (Builtin.List.listItems (.ref S) >>= fun old => updateSeq S (fun _ => #[]) >>= fun _ => letGo old.toList.reverse >>= fun _ => Builtin.List.listExtendWith (.ref S) (.ref it) .none) := rfl
  rw [code]
  refine wpAny_bind (items_none g (wpAny_bind (wpAny_updateSeq g rfl (wpAny_bind (wpAny_letGo ?_)))))
  have same : ∀ b o, b ≠ S → s.heap.get? b = some o → (s.heap.update S (Obj.mapSeq fun _ => #[])).get? b = some o := fun b o n e => (Heap.get?_update_other _ _ n.symm).trans e
  obtain ⟨ol, gl, kl⟩ := id hl
  exact back_fill hh (Heap.get?_update_self (Obj.mapSeq fun _ => #[]) g rfl) (hit.at fun o e => same it o apart.2.1.symm e) ⟨ol, same l ol apart.2.2.symm gl, kl⟩ apart lim fun h' tk acc c' keep full told => fin h' tk acc c' (fun b o n1 n2 e => keep b o n1 n2 (same b o n1 e)) full told
/-- list(an iterator over l from its end): a new list -/
theorem back_call {Q : Value → Shared → Prop} (hh : A.handled = none) (hit : s.heap.IsRevIter it l ((items.size : Int) - 1)) (hl : s.heap.IsList l items) (ne : l ≠ it) (lim : items.size ≤ sizeLine)
    (q : ∀ (h' : Heap) (tk : Nat) (acc : Array Value) (c' : Nat), (∀ b o, b ≠ it → s.heap.get? b = some o → h'.get? b = some o) → h'.get? s.heap.objs.size = some { cls := .type "list", dict := none, data := .seq acc c', slots := #[] } → ItemsOf (Back items) acc items.size → Q (.ref s.heap.objs.size) { s with heap := h', toks := tk }) :
    wpAny (model prog w) A (call (.type "list") [.ref it]) Q E s := by
  have grown : ∀ b o, s.heap.get? b = some o → (s.heap.push { cls := .type "list", data := .seq #[] }).get? b = some o := fun _ _ => Heap.get?_push_of_some _
  have fresh : ∀ b o, s.heap.get? b = some o → s.heap.objs.size ≠ b := fun b o e => Nat.ne_of_gt (Heap.lt_size e)
  have top : (s.heap.push { cls := .type "list", data := .seq #[] }).get? s.heap.objs.size = some { cls := .type "list", data := .seq #[] } := Heap.get?_push_size _ rfl
  refine callType_codes (Q₁ := fun v z => v = .ref s.heap.objs.size ∧ z = { s with heap := s.heap.push { cls := .type "list", data := .seq #[] } }) F.called_list (F.typeCall_list_1 _) F.entry_list_init (code_list_new _ ⟨rfl, rfl⟩) ?_
  rintro _ _ ⟨rfl, rfl⟩
  refine ⟨⟨_, top, rfl⟩, F.args_list_init_2 _ _, ?_⟩
  have ⟨oi, gi, _⟩ := hit
  have ⟨ol, gl, kl⟩ := hl
  refine back_init (A := A.in1) hh top (hit.at fun o e => grown _ o e) ⟨ol, grown l ol gl, kl⟩ ⟨ne, fresh it oi gi, fresh l ol gl⟩ lim fun h' tk acc c' keep full told => ⟨rfl, q h' tk acc c' (fun b o n e => keep b o (fresh b o e).symm n (grown b o e)) full told⟩
end
/-- list(reversed(a list)) -/
def eRev (A : TE3) : TE3 := fun s m k x => A s m (fun d m1 => ∃ a l, d = .ref a ∧ RL m1 a l ∧ ∀ q, m1 q = none → k (.ref q) (mset m1 q (.lst l.reverse))) x
theorem x_rev {A : TE3} {s : S3} {m : Mp} {k : K3} {x : X3} (h : A s m (fun d m1 => ∃ a l, d = .ref a ∧ RL m1 a l ∧ ∀ q, m1 q = none → k (.ref q) (mset m1 q (.lst l.reverse))) x) : eRev A s m k x := h
section
variable {X : Cx} {cl : Cl} {W : WX} {A : TE3} {e : Expr} {p p2 pos pos2 : Pos}
theorem mono_rev (ha : MonoE A) : MonoE (eRev A) := fun s m k k' x x' hk hx h => ha _ _ _ _ _ _ (fun d m1 ⟨a, l, e, r, z⟩ => ⟨a, l, e, r, fun q hq => hk _ _ (z q hq)⟩) hx h
/-- reversed(a list), just made: at s1 the list stood alone -/
def RevMade (X : Cx) (cl : Cl) (pins : List (Addr × Obj)) (σ : L2.St) (H : Hp) (Q : VK) (r : Value) (s2 : Shared) : Prop :=
  ∃ (q : Addr) (l : List D) (vs : List V) (its : List Value) (H1 : Hp) (m1 : Mp) (s1 : Shared), r = .ref s1.heap.objs.size ∧ s2 = { s1 with heap := s1.heap.push (revObj q ((its.toArray.size : Int) - 1)) } ∧ Inv X pins σ H1 s1 ∧ PlainL s1.heap q its.toArray ∧ vs.length ≤ sizeLine ∧ Vals vs its ∧ Reps X.K H1 l vs ∧ Ab X.K cl H1 m1 ∧ Ext H H1 ∧
    ∀ z, m1 z = none → cE X.K cl H Q (.ref z) (mset m1 z (.lst l.reverse))
theorem rev_made {pins : List (Addr × Obj)} {σ : L2.St} {H : Hp} {s : Shared} {Q : VK} (hg2 : Gl X "reversed") (hm2 : X.mg "reversed" = none) (ha : QE X cl W e A) (hs : starEach [e] X.env = (false, eval e X.env) :: starEach [] X.env) (I : Inv X pins σ H s) (h : upE X.K cl W (eRev A) σ H Q) :
    wpAny (model X.prog X.w) X.A (eval (.Call (.Name "reversed" p2) [e] [] pos2) X.env) (RevMade X cl pins σ H Q) X.xe s := by
  obtain ⟨sl, m, hsl, hm, h⟩ := h
  have arg := ha.run.run pins s σ H (fun v H1 => ∃ d m1, Rep X.K H1 d v ∧ Ab X.K cl H1 m1 ∧ Ext H H1 ∧ ∃ a l, d = .ref a ∧ RL m1 a l ∧ ∀ z, m1 z = none → cE X.K cl H Q (.ref z) (mset m1 z (.lst l.reverse))) I
    ⟨sl, m, hsl, hm, ha.mono _ _ _ _ _ _ (fun d m1 z v H1 r hm1 e1 => ⟨d, m1, r, hm1, e1, z⟩) (fun _ _ z => z) h⟩
  refine Call_ (ld_blt I hg2 hm2 PyProof.Rows.boot_reversed (PyProof.Rows.callWith_type1 (args_cons (wpAny_mono arg ?_ fun _ _ z => z) hs) hs rfl))
  rintro u s1 ⟨v, H1, I1, rv, d, m1, rd, hm1, e1, q, l, rfl, rl, w⟩
  obtain rfl : v = .ref q := rd
  cases rv
  obtain ⟨vs, sq, rps⟩ := hm1.rl rl
  obtain ⟨its, vals, pl, lim⟩ := I1.list sq
  exact args_nil (call_reversed_list pl.isList ⟨q, l, vs, its, H1, m1, s1, rfl, rfl, I1, pl, lim, vals, rps, hm1, e1, w⟩)
theorem q_rev (hc : X.calm = true) (hg : Gl X "list") (hm : X.mg "list" = none) (hg2 : Gl X "reversed") (hm2 : X.mg "reversed" = none) (ha : QE X cl W e A) (hs : starEach [e] X.env = (false, eval e X.env) :: starEach [] X.env := by rfl)
    (hs2 : starEach [.Call (.Name "reversed" p2) [e] [] pos2] X.env = (false, eval (.Call (.Name "reversed" p2) [e] [] pos2) X.env) :: starEach [] X.env := by rfl) :
    QE X cl W (.Call (.Name "list" p) [.Call (.Name "reversed" p2) [e] [] pos2] [] pos) (eRev A) := by
  refine ⟨mono_rev ha.mono, ⟨fun pins s σ H Q I h => ?_⟩⟩
  refine Call_ (ld_blt I hg hm boot_list (PyProof.Rows.callWith_type1 (args_cons (wpAny_mono (rev_made hg2 hm2 ha hs I h) ?_ fun _ _ z => z) hs2) hs2 rfl))
  rintro _ _ ⟨q, l, vs, its, H1, m1, s1, rfl, rfl, I1, pl, lim, vals, rps, hm1, e1, w⟩
  have grown : ∀ b o, s1.heap.get? b = some o → (s1.heap.push (revObj q ((its.toArray.size : Int) - 1))).get? b = some o := fun _ _ => Heap.get?_push_of_some _
  have ⟨ol, gl, kl⟩ := pl.isList
  have small : its.toArray.size ≤ sizeLine := by rw [List.size_toArray, ← vals.length]; exact lim
  have up : s1.heap.objs.size ≤ (s1.heap.push (revObj q ((its.toArray.size : Int) - 1))).objs.size := by rw [size_push']; exact Nat.le_succ _
  refine args_nil (back_call (I1.ok.hd hc) ⟨_, Heap.get?_push_size _ rfl, rfl, rfl⟩ ⟨ol, grown q ol gl, kl⟩ (Nat.ne_of_lt (Heap.lt_size gl)) small fun h' tk acc c' keep full told => ?_)
  have free := I1.hok.fresh up
  have made : ObjOk X.prog X.w (upd H1 (s1.heap.push (revObj q ((its.toArray.size : Int) - 1))).objs.size (.lst vs.reverse)) h' _ (.lst vs.reverse) := ⟨by rw [List.length_reverse]; exact lim, acc.toList, c', RT.vals_rev vals told, by rw [Array.toArray_toList]; exact full⟩
  exact ⟨.ref _, _, I1.laid (t' := tk) (fun b o e => keep b o (Nat.ne_of_lt (Heap.lt_size e)) (grown b o e)) up made, rfl, w _ (hm1.free free) _ _ rfl (new_lst hm1 free rps.reverse) (e1.trans (Ext.new free))⟩
end
end PV

/-! Walks over reversed(a list), enumerate(a list); isinstance with several built-in classes. -/
namespace PV
open PySem L2 PyProof.Rows
section
variable {X : Cx} {cl : Cl} {W : WX} {a tg : Expr} {A : TE3} {R : TA3} {p pos : Pos}
theorem walk_rev {q : Addr} {l : List D} {H0 : Hp} : Walk3 X.K cl H0 (Itv X.K q l.length) l.reverse fun m => RL m q l := fun i H m e0 hm h hi => by
  obtain ⟨vs, q1, q2⟩ := hm.rl h
  rw [List.length_reverse] at hi
  refine ⟨fun e => by rw [List.length_reverse] at e; exact Nat.le_of_eq e.symm, fun d hd => ?_⟩
  have hlt := (List.getElem?_eq_some_iff.mp hd).1
  rw [List.length_reverse] at hlt
  rw [List.getElem?_reverse hlt] at hd
  obtain ⟨v, e1, r1⟩ := q2.get hd
  refine ⟨⟨hlt, vs, v, q1, e1⟩, fun x H' ⟨eH, hx⟩ => ?_⟩
  subst eH
  have e2 := hx vs q1
  rw [e1] at e2; cases e2
  exact ⟨r1, hm, Ext.refl _⟩
def iRv (R : TA3) : TI3 := fun s m k x => R s m (fun ds m1 => ∃ q l, ds = [.ref q] ∧ RL m1 q l ∧ k l.reverse (fun m => RL m q l) m1) x
theorem qi_rev (hg : Gl X "reversed") (hm : X.mg "reversed" = none) (ha : QA X cl W [a] R) (hs : starEach [a] X.env = [(false, eval a X.env)]) : QI X cl W tg (.Call (.Name "reversed" p) [a] [] pos) (iRv R) :=
  ⟨fun s m k k' x x' hk hx h => ha.mono _ _ _ _ _ _ (fun ds m1 ⟨q, l, e, z, w⟩ => ⟨q, l, e, z, hk _ _ _ w⟩) hx h,
   PI.imp (pi_reversed hg hm ha.run hs) fun σ H Q ⟨s, m, h1, h2, h⟩ => ⟨s, m, h1, h2, ha.mono _ _ _ _ _ _ (fun ds m1 ⟨q, l, e, z, w⟩ vs H1 r hm1 e1 => by
    subst e
    obtain ⟨v, rfl, y⟩ := reps1 r
    cases y
    obtain ⟨us, q1, q2⟩ := hm1.rl z
    refine ⟨q, us, rfl, q1, ?_⟩
    rw [← q2.length]
    exact w _ H1 walk_rev hm1 e1) (fun _ _ z => z) h⟩⟩
def enumD (l : List D) : List D := l.mapIdx fun i d => .tup [.int (i : Nat), d]
theorem enumD_length {l : List D} : (enumD l).length = l.length := by unfold enumD; simp
theorem enumD_get {l : List D} {i : Nat} {d : D} (h : (enumD l)[i]? = some d) : ∃ e, l[i]? = some e ∧ d = .tup [.int (i : Nat), e] := by
  unfold enumD at h
  rw [List.getElem?_mapIdx] at h
  cases e : l[i]? with
  | none => rw [e] at h; cases h
  | some y => rw [e] at h; exact ⟨y, rfl, (Option.some.inj h).symm⟩
theorem walk_enum {q : Addr} {l : List D} {H0 : Hp} : Walk3 X.K cl H0 (Ite X.K q) (enumD l) fun m => RL m q l := fun i H m e0 hm h hi => by
  obtain ⟨vs, q1, q2⟩ := hm.rl h
  refine ⟨fun e => ⟨vs, q1, by rw [enumD_length] at e; rw [← q2.length]; omega⟩, fun d hd => ?_⟩
  obtain ⟨y, h1, rfl⟩ := enumD_get hd
  obtain ⟨v, e1, r1⟩ := q2.get h1
  refine ⟨⟨vs, v, q1, e1⟩, fun z H' ⟨T, u, ez, hT, eH, hu⟩ => ?_⟩
  subst ez eH
  have f1 := hu vs q1
  rw [e1] at f1; cases f1
  exact ⟨rep_tup hT ⟨_, _, rfl, rfl, _, _, rfl, r1, rfl⟩, hm.hid hT, Ext.new hT⟩
def iEn (R : TA3) : TI3 := fun s m k x => R s m (fun ds m1 => ∃ q l, ds = [.ref q] ∧ RL m1 q l ∧ k (enumD l) (fun m => RL m q l) m1) x
theorem qi_enum {elts : List Expr} {kk : Nat} {tpos : Pos} (hg : Gl X "enumerate") (hm : X.mg "enumerate" = none) (ha : QA X cl W [a] R) (hs : starEach [a] X.env = [(false, eval a X.env)]) : QI X cl W (.Tuple elts kk tpos) (.Call (.Name "enumerate" p) [a] [] pos) (iEn R) :=
  ⟨fun s m k k' x x' hk hx h => ha.mono _ _ _ _ _ _ (fun ds m1 ⟨q, l, e, z, w⟩ => ⟨q, l, e, z, hk _ _ _ w⟩) hx h,
   PI.imp (pi_enum hg hm ha.run hs) fun σ H Q ⟨s, m, h1, h2, h⟩ => ⟨s, m, h1, h2, ha.mono _ _ _ _ _ _ (fun ds m1 ⟨q, l, e, z, w⟩ vs H1 r hm1 e1 => by
    subst e
    obtain ⟨v, rfl, y⟩ := reps1 r
    cases y
    obtain ⟨us, q1, q2⟩ := hm1.rl z
    exact ⟨q, us, rfl, q1, w _ H1 walk_enum hm1 e1⟩) (fun _ _ z => z) h⟩⟩
end
section
variable {R : TA3} {s : S3} {m : Mp} {x : X3} {ki : List D → (Mp → Prop) → Mp → Prop} {l : List D} {p : Addr}
theorem x_irv (h : R s m (fun ds m1 => ∃ q l, ds = [.ref q] ∧ RL m1 q l ∧ ki l.reverse (fun m => RL m q l) m1) x) : iRv R s m ki x := h
theorem x_ien (h : R s m (fun ds m1 => ∃ q l, ds = [.ref q] ∧ RL m1 q l ∧ ki (enumD l) (fun m => RL m q l) m1) x) : iEn R s m ki x := h
theorem x_irL (h1 : RL m p l) (h : ki l.reverse (fun m => RL m p l) m) : ∃ q l', [D.ref p] = [.ref q] ∧ RL m q l' ∧ ki l'.reverse (fun m => RL m q l') m := ⟨p, l, rfl, h1, h⟩
theorem x_ieL (h1 : RL m p l) (h : ki (enumD l) (fun m => RL m p l) m) : ∃ q l', [D.ref p] = [.ref q] ∧ RL m q l' ∧ ki (enumD l') (fun m => RL m q l') m := ⟨p, l, rfl, h1, h⟩
end
/-! isinstance(x, (int, str)) -/
def anyK (t : String) : List String → Option Bool
  | [] => some false
  | c :: cs => match kitB t c with
    | some true => some true
    | some false => anyK t cs
    | none => none
theorem anyK_kit {K : PySem.W.Frag} {t : String} : ∀ {ts : List String} {b : Bool}, anyK t ts = some b → PySem.W.kitAny K (.type t) (ts.map Value.type) = some b
  | [], b, h => by cases h; exact kitAny_nil
  | c :: cs, b, h => by
    unfold anyK at h
    cases e : kitB t c with
    | none => rw [e] at h; cases h
    | some r =>
      rw [e] at h
      cases r with
      | true => cases h; exact kitAny_cons (kit_ty e) (fun z => by cases z) (fun _ => rfl)
      | false => exact kitAny_cons (kit_ty e) (fun _ => anyK_kit h) (fun z => by cases z)
structure QTys (X : Cx) (es : List Expr) (ts : List String) : Prop where
  run : PA X es (fun _ H Q => Q (ts.map V.ty) H)
section
variable {X : Cx} {cl : Cl} {W : WX} {a : Expr} {es : List Expr} {A : TE3} {p p2 pos : Pos}
theorem ts_nil : QTys X [] [] := ⟨PA.imp pa_nil fun σ H Q h => h⟩
theorem ts_cons {x : Str} {T : String} {ts : List String} (hv : bootBuiltins x = some (.type T)) (hn : x ≠ "__name__") (hdb : (x == ("__debug__" : Str)) = false) (hg : Gl X x) (hm : X.mg x = none) (r : QTys X es ts)
    (hs : starEach (.Name x p :: es) X.env = (false, eval (.Name x p) X.env) :: starEach es X.env) : QTys X (.Name x p :: es) (T :: ts) :=
  ⟨PA.imp (pa_cons (pe_bltn (v := V.ty T) hg hm hv rfl hn hdb) r.run hs) fun σ H Q h => h⟩
def eIsT (A : TE3) (ts : List String) : TE3 := fun s m k x => A s m (fun d m1 => ∃ t b, TyD m1 d t ∧ anyK t ts = some b ∧ k (.bl b) m1) x
theorem paired_ty : ∀ ts : List String, Paired ClsV (ts.map V.ty) (ts.map Value.type)
  | [] => .nil
  | t :: ts => .cons (.ty t) (paired_ty ts)
theorem q_ist {k0 : Nat} {ts : List String} (hg : Gl X "isinstance") (hm : X.mg "isinstance" = none) (ha : QE X cl W a A) (hc : QTys X es ts) (hl : ts.length ≤ 1000)
    (h1 : starEach [a, .Tuple es k0 p2] X.env = (false, eval a X.env) :: starEach [.Tuple es k0 p2] X.env) (h2 : starEach [.Tuple es k0 p2] X.env = (false, eval (.Tuple es k0 p2) X.env) :: starEach [] X.env) (hpl : (backTo pos (starEach [.Tuple es k0 p2] X.env)).any (·.1) = false) :
    QE X cl W (.Call (.Name "isinstance" p) [a, .Tuple es k0 p2] [] pos) (eIsT A ts) := by
  refine ⟨fun s m k k' x x' hk hx q => ha.mono _ _ _ _ _ _ (fun d m1 ⟨t, b, z1, z2, z3⟩ => ⟨t, b, z1, z2, hk _ _ z3⟩) hx q, ?_⟩
  refine PE.imp (pe_callB call_isiT hg hm (by decide +kernel) (pa_cons ha.run (pa_cons (pe_tup hc.run) pa_nil h2) h1) (by decide) (by decide) h1 hpl) fun σ H Q ⟨s, m, hs, hm, q⟩ => ?_
  refine ⟨s, m, hs, hm, ha.mono _ _ _ _ _ _ (fun d m1 ⟨t, b, z1, z2, z3⟩ v H1 r hm1 ee => ?_) (fun _ _ z => z) q⟩
  show (ts.map V.ty).length ≤ sizeLine ∧ ∀ p, H1 p = none → rIsiT X.K [v, .ref p] (upd H1 p (.tup (ts.map V.ty))) Q
  refine ⟨?_, fun tp htp => ?_⟩
  · rw [List.length_map]
    exact Nat.le_trans hl (by decide)
  have e2 := Ext.new (o := .tup (ts.map V.ty)) htp
  have hm2 := hm1.hid (u := .tup (ts.map V.ty)) htp
  exact ⟨v, tp, _, .type t, _, b, rfl, upd_same, paired_ty ts, z1.up (r.mono e2) hm2, anyK_kit z2, z3 _ _ rfl hm2 (ee.trans e2)⟩
end
section
variable {A : TE3} {s : S3} {m : Mp} {k : K3} {x : X3} {ts : List String} {d : D} {t : String} {b : Bool}
theorem x_ist (h : A s m (fun d m1 => ∃ t b, TyD m1 d t ∧ anyK t ts = some b ∧ k (.bl b) m1) x) : eIsT A ts s m k x := h
theorem xf_istT {Z : Bool → Prop} (h0 : TyD m d t) (h1 : anyK t ts = some true) (h : Z true) : ∃ t b, TyD m d t ∧ anyK t ts = some b ∧ Z b := ⟨t, true, h0, h1, h⟩
theorem xf_istF {Z : Bool → Prop} (h0 : TyD m d t) (h1 : anyK t ts = some false) (h : Z false) : ∃ t b, TyD m d t ∧ anyK t ts = some b ∧ Z b := ⟨t, false, h0, h1, h⟩
theorem xf_ist {Z : Bool → Prop} (h0 : TyD m d t) (h1 : anyK t ts = some b) (h : Z b) : ∃ t b, TyD m d t ∧ anyK t ts = some b ∧ Z b := ⟨t, b, h0, h1, h⟩
end
end PV

/-! A list comprehension whose element may raise. -/
namespace PV
open PySem L2 PyProof.Rows
section
variable {M : Model} {A : Around} {E : Value → Shared → Prop} {env : Env} {outer l : List Env} {B G : Heap} {L C e : Addr} {Z : Obj → Prop} {s : Shared}
/-- held by another frame: noted by this one -/
theorem note_other (hZ : HandSPX.Steady Z) (hfr : A.frames = some (env :: outer)) (hf : env.frame = some L) (hne : C ≠ L) (hh : HandSPX.HeldZ B (env :: outer) e Z C s.heap)
    {Q : Unit → Shared → Prop} (hQ : ∀ h', HandSPX.HeldZ B (env :: outer) e Z L h' → s.heap.UpToSlots h' → Q () { s with heap := h' }) : wpAny M A (noteFrame (.ref e) env) Q E s := by
  obtain ⟨st, na, ff, o1, v1, T, o2, v2, g1, z1, d1, i1, nT, Te, g2, d2, i2⟩ := hh
  unfold noteFrame
  simp only [hf]
  refine wpAny_bind (wpAny_field g1 d1 i1 ?_)
  rw [if_pos (show (Value.ref T != .none) = true by simp)]
  refine wpAny_bind (wpAny_field g2 d2 i2 ?_)
  rw [if_neg (show ¬ ((rawInt C == rawInt L) = true) from fun z => hne (Int.ofNat.inj (by simpa [rawInt] using z)))]
  refine wpAny_bind (wpAny_setField g2 d2 (Array.getElem?_eq_some_iff.mp i2).1 ?_)
  have kp : ∀ b, b ≠ T → (s.heap.update T (Obj.mapFields (·.setIfInBounds 3 Value.none))).get? b = s.heap.get? b := fun b n => Heap.get?_update_other _ _ n.symm
  have nr : ∀ b o, s.heap.get? b = some o → (∀ w, o.data ≠ .fields w) → b ≠ T := fun b o q n z => by rw [z, g2] at q; cases q; exact n _ d2
  refine HandSPX.wpAny_entryZ hZ hfr (ff.of_keeps fun b o q n => ⟨o, (kp b (nr b o q n)).trans q, rfl⟩) hf ((kp e Te.symm).trans g1) (fun b o q => (kp b fun z => by rw [z, nT] at q; cases q).trans (st b o q)) na d1 (Array.getElem?_eq_some_iff.mp i1).1 z1 fun h' hn => ?_
  obtain ⟨y1, y2, y3, y4⟩ := hn
  exact hQ h' ⟨y1, na, y2, y3⟩ fun b o q n => y4 b o ((kp b (nr b o q n)).trans q) n
theorem frames_base {h : Heap} (k : ∀ b, B.get? b = none → G.get? b = none) : ∀ {l : List Env}, h.FunFrames B l → h.FunFrames G l
  | [], _ => True.intro
  | _ :: _, ⟨a, ⟨L, o, b, c, d⟩, r⟩ => ⟨a, ⟨L, o, b, k L c, d⟩, frames_base k r⟩
end
section
variable {X : Cx} {pins : List (Addr × Obj)} {σ : L2.St} {H : Hp} {s : Shared} {W : WX}
/-- a block's context that lets exceptions out -/
abbrev blkX (X : Cx) (s : Shared) (H : Hp) (scope : Scope) (cenv : Env) (fp : List Addr) (xe : Value → Shared → Prop) : Cx := { X.blk s H scope cenv fp with xe := xe }
/-- the wish at the block's start -/
def wAt (W : WX) (σ : L2.St) : WX := fun c d _ H => W c d σ H
theorem inv_xe {scope : Scope} {cenv : Env} {fp : List Addr} {xe : Value → Shared → Prop} {p2 : List (Addr × Obj)} {σ2 : L2.St} {H2 : Hp} {s2 : Shared} (I : Inv (X.blk s H scope cenv fp) p2 σ2 H2 s2) : Inv (blkX X s H scope cenv fp xe) p2 σ2 H2 s2 := by
  obtain ⟨ok, a1, a2, a3, a4, a5, a6, a7, a8, a9, a10⟩ := I
  refine ⟨?_, a1, a2, a3, a4, a5, a6, a7, a8, a9, a10⟩
  obtain ⟨b1, b2, b3, b4, b5, b6, b7, b8, b9, b10, b11, b12, b13, b14, b15, b16, b17, b18⟩ := ok
  exact ⟨b1, b2, b3, b4, b5, b6, b7, b8, b9, b10, b11, b12, b13, b14, b15, b16, b17, b18⟩
/-- an exception in the block's air leaves the block -/
theorem comp_out {scope : Scope} {cenv : Env} {fp : List Addr} {xe : Value → Shared → Prop} (hst : X.stack = X.env :: X.outer) (hef : X.env.frame = some X.env.locals) (tk : Takes X W) (I : Inv X pins σ H s)
    (hfp : ∀ b ∈ fp, FpOk X pins H b) (hC : s.heap.objs.size ≤ cenv.locals) (hcf : cenv.frame = X.env.frame) {u : Value} {s' : Shared} (x : XE (blkX X s H scope cenv fp xe) (wAt W σ) u s') :
    notedBy (model X.prog X.w) X.A cenv (CompFails (model X.prog X.w) X.A X.xe cenv) u s' := by
  obtain ⟨a, B, sI, pb, σb, Hb, cls, d, rfl, J, nb, up, sky, na, os, ag, w⟩ := x
  have w : W cls d σ Hb := w
  have I7 : Inv X pins σ Hb sI := I.call' (ch := fp) J.os J.base J.hok J.bare fun b hb => ⟨(hfp b hb).2.2.2.1, (hfp b hb).2.1, (hfp b hb).2.2.2.2.1, (hfp b hb).2.2.2.2.2⟩
  obtain ⟨m0, nsI, -⟩ := J.loc
  have nsI : sI.heap.Ns cenv.locals m0 := nsI
  have nC : Hb cenv.locals = none := J.free
  have fpC : FpOk X pins Hb cenv.locals := I.fpOk hC nC
  have neL : cenv.locals ≠ X.env.locals := fpC.2.1
  have nF : cenv.locals ∉ frs X.stack := fun z => by
    rcases List.mem_cons.mp (I.stkSub _ z) with z | z
    · exact neL z
    · exact fpC.2.2.1 z
  obtain ⟨o0, _, _, q0, d0, _⟩ := id nsI
  have bC : B.get? cenv.locals = some o0 := nb _ _ q0 nF
  have hfr : X.A.frames = some (X.env :: X.outer) := I.ok.frames.trans (congrArg some hst)
  have fin : ∀ h1, HandSPX.HeldZ B (X.env :: X.outer) a (Zc cls d) X.env.locals h1 → s'.heap.UpToSlots h1 → CompFails (model X.prog X.w) X.A X.xe cenv (.ref a) { s' with heap := h1 } := fun h1 hh up1 => by
    obtain ⟨st, na1, ff, o1, v1, T, o2, v2, g1, z1, d1, i1, nT, Te, g2, d2, i2⟩ := hh
    refine ⟨m0, (up.trans up1).ns nsI, fun h2 m2 n2 sb => ?_⟩
    have aC : a ≠ cenv.locals := fun z => by rw [z, bC] at na1; cases na1
    have TC : T ≠ cenv.locals := fun z => by rw [z, bC] at nT; cases nT
    obtain ⟨G, r1, r2⟩ := restrict h2 fun b => (B.get? b).isSome
    have gN : ∀ b, B.get? b = none → G.get? b = none := fun b e => r2 b (by rw [e]; rfl)
    have gS : ∀ b o, B.get? b = some o → G.get? b = h2.get? b := fun b o e => r1 b (by rw [e]; rfl)
    have stG : G.StaysIn h2 := fun b o e => by
      cases q : B.get? b with
      | none => rw [gN b q] at e; cases e
      | some o' => rw [gS b o' q] at e; exact e
    have hh2 : HandSPX.HeldZ G (X.env :: X.outer) a (Zc cls d) X.env.locals h2 :=
      ⟨stG, gN a na1, frames_base gN (Heap.FunFrames.sameBut sb n2 ff), o1, v1, T, o2, v2, (sb.2 a aC).trans g1, z1, d1, i1, gN T nT, Te, (sb.2 T TC).trans g2, d2, i2⟩
    obtain ⟨oC, _, _, qC, dC, _⟩ := id n2
    unfold PySem.passOn
    refine wpAny_bind (wpAny_field ((sb.2 a aC).trans g1) d1 i1 ?_)
    rw [if_neg (show ¬ ((Value.ref T == .none) = true) by simp), hcf, hef]
    refine wpAny_bind (HandSPX.setFlight_onZ hh2 fun h3 hh3 up3 => wpAny_throw ?_)
    have qC3 : h3.get? cenv.locals = some oC := hh3.1 _ _ ((gS _ _ bC).trans qC)
    have e1 : (sI.heap.update cenv.locals fun _ => oC).get? cenv.locals = some oC := Heap.get?_update_self _ q0 (by cases oC; cases dC; rfl)
    have e2 : ∀ b, b ≠ cenv.locals → (sI.heap.update cenv.locals fun _ => oC).get? b = sI.heap.get? b := fun b n => Heap.get?_update_other _ _ n.symm
    have I8 : Inv X pins σ Hb { sI with heap := sI.heap.update cenv.locals fun _ => oC } := I7.turned (t' := sI.toks) (it := cenv.locals) (fun b o n q => (e2 b n).trans q) nC neL fpC.2.2.2.1 fpC.2.2.2.2.1 fpC.2.2.2.2.2
    refine tk _ _ ⟨a, G, _, pins, σ, Hb, cls, d, rfl, I8, fun b o q n => ?_, fun b o q n => ?_, .inr (.inr (by rw [hst]; exact hh3)), na, os, ag, w⟩
    · by_cases z : b = cenv.locals
      · subst z
        rw [e1] at q; cases q
        exact (gS _ _ bC).trans qC
      · rw [e2 b z] at q
        have q' := nb b o q n
        exact (gS b o q').trans ((sb.2 b z).trans (st b o q'))
    · by_cases z : b = cenv.locals
      · subst z
        rw [e1] at q; cases q
        exact ⟨_, qC3⟩
      · rw [e2 b z] at q
        obtain ⟨sl1, q1⟩ := (up.trans up1) b o q n
        obtain ⟨sl2, q2⟩ := up3 b _ ((sb.2 b z).trans q1) n
        exact ⟨sl2, q2⟩
  show wpAny _ _ (noteFrame (.ref a) cenv) _ _ s'
  rw [noteFrame_env _ hcf]
  have sky : Sky B X.stack a (Zc cls d) cenv.locals s'.heap := sky
  rw [hst] at sky
  rcases sky with ⟨k1, k2, k3, k4, k5, k6, k7, k8, k9⟩ | fl | hd
  · exact HandSPX.look_newZ Zc.steady hfr k3 hef k6 k1 k2 k8 k9 k7 fin
  · exact HandSPX.looks_onZ Zc.steady hfr hef fl fin
  · exact note_other Zc.steady hfr hef neL hd fin
end
end PV

namespace PV
open PySem L2 PyProof.Rows
/-- a block that has no cells of its own: its names' places -/
structure BlkNames (X : Cx) (scope : Scope) (ce : Env) : Prop where
  sub : ∀ y c, ce.cells.lookup y = some c → X.env.cells.lookup y = some c
  has : ∀ y, (y, NameKind.free) ∈ scope.names → ∃ c, ce.cells.lookup y = some c
theorem blk_names {X : Cx} {pins : List (Addr × Obj)} {σ : L2.St} {H : Hp} {s : Shared} {scope : Scope} {own : List (Str × Nat)} {C : Addr} (I : Inv X pins σ H s) (ok : BlkOk X.N X.env.scope scope own) :
    BlkNames X scope (compEnvC scope (cloFrom X.env.cells scope.names []) C X.env) := by
  constructor
  · intro y c e
    rcases cloFrom_mem (PySem.mem_of_lookup (show (cloFrom X.env.cells scope.names []).lookup y = some c from e)) with h | ⟨h, rfl⟩
    · cases h
    · obtain ⟨c', e'⟩ := I.ok.has y (ok.free _ h rfl)
      rw [e']; rfl
  · intro y hy
    exact mem_lookup (cloFrom_has hy)
/-- what a name of the block is: one of its own, or one that stands around it -/
theorem blk_kind {X : Cx} {scope : Scope} {C : Addr} {cl : List (Str × Addr)} {y : Str} {k : NameKind} (hcell : ∀ z ∈ scope.names, z.2 ≠ .cell) (h : (compEnvC scope cl C X.env).kindOf y = some k) :
    k = .cell ∨ k = .free → (y, NameKind.free) ∈ scope.names := by
  intro hk
  obtain ⟨k', e, r⟩ := lookup_relS (sc := X.env.scope) (names := scope.names) (x := y) (k := k) h
  have m := PySem.mem_of_lookup e
  rcases r with rfl | ⟨rfl, -⟩
  · rcases hk with rfl | rfl
    · exact absurd rfl (hcell _ m)
    · exact m
  · exact m
/-- where a block begins (no cells of its own): the ground is the state at the iterator -/
theorem blk_begins {X : Cx} {pins : List (Addr × Obj)} {σ : L2.St} {H : Hp} {s2 s3 : Shared} {scope : Scope} {own : List (Str × Nat)} {fp : List Addr} {D C : Addr} {xe : Value → Shared → Prop} (I : Inv X pins σ H s2) (ok : BlkOk X.N X.env.scope scope own)
    (hN : X.N.Nodup) (hcell : ∀ z ∈ scope.names, z.2 ≠ .cell) (hb : CompBegins s2 D C s3) (hfp : ∀ b ∈ fp, FpOk X pins H b ∧ b < s2.heap.objs.size) :
    Inv (blkX X s2 H scope (compEnvC scope (cloFrom X.env.cells scope.names []) C X.env) (D :: fp) xe) [] (wipe σ (own.map (·.2))) H s3 := by
  obtain ⟨⟨h3, tk, rfl⟩, old, nD, nC, neDC, ns⟩ := hb
  have nm := blk_names (C := C) I ok
  generalize hce : compEnvC scope (cloFrom X.env.cells scope.names []) C X.env = ce at nm ⊢
  have eL : ce.locals = C := by subst hce; rfl
  have knd : ∀ {y k}, ce.kindOf y = some k → k = .cell ∨ k = .free → (y, NameKind.free) ∈ scope.names := fun h => by subst hce; exact blk_kind hcell h
  have low : ∀ y c, ce.cells.lookup y = some c → c < s2.heap.objs.size := fun y c e => by
    obtain ⟨w, z⟩ := I.cell y c (nm.sub y c e)
    exact z.lt
  have ground : ∀ b ∈ D :: fp, FpOk X pins H b ∧ b ≠ C := fun b m => by
    rcases List.mem_cons.mp m with rfl | m
    · exact ⟨I.fpOk nD (I.hok.fresh nD), neDC⟩
    · exact ⟨(hfp b m).1, Nat.ne_of_lt (Nat.lt_of_lt_of_le (hfp b m).2 nC)⟩
  refine { ok := ?ok, os := rfl, bare := I.bare, base := Un.kept old, loc := ⟨fun _ => none, by rw [eL]; exact ns, ?loc⟩, cell := (fun y c e => ?cell), free := (by rw [eL]; exact I.hok.fresh nC), freeC := fun y c e => I.freeC y c (nm.sub y c e), pin := (fun p m => absurd m (by simp)), hok := I.hok.kept old, len := (by rw [wipe_length]; exact I.len) }
  case cell =>
    obtain ⟨w, z⟩ := I.cell y c (nm.sub y c e)
    exact ⟨w, z.keeps old⟩
  case loc =>
    intro i y u hi hu vis
    obtain ⟨hu, fresh⟩ := wipe_some hu
    obtain ⟨m, -, look⟩ := I.loc
    have fr : (y, NameKind.free) ∈ scope.names ∧ (ce.kindOf y = some .cell ∨ ce.kindOf y = some .free) := by
      rcases vis with v | v | v
      · subst hce
        obtain ⟨k', e, r⟩ := lookup_relS (sc := X.env.scope) (names := scope.names) (x := y) (k := .local) v
        rcases r with rfl | ⟨rfl, r⟩
        · rcases ok.own _ (PySem.mem_of_lookup e) (.inl rfl) with z | z
          · obtain ⟨q, q1, q2⟩ := List.mem_map.mp z
            have := ok.ix q q1
            rw [show q.1 = y from q2] at this
            exact absurd (List.mem_map.mpr ⟨q, q1, nodup_ix hN this hi⟩) fresh
          · exact absurd (List.mem_of_getElem? hi) z
        · cases r
      · exact ⟨knd v (.inl rfl), .inl v⟩
      · exact ⟨knd v (.inr rfl), .inr v⟩
    have outer := ok.free _ fr.1 rfl
    obtain ⟨w, r, q⟩ := look i y u hi hu (outer.elim (fun z => .inr (.inl z)) fun z => .inr (.inr z))
    refine ⟨w, r, .inr ⟨fr.2, ?_⟩⟩
    obtain ⟨c, e⟩ := nm.has y fr.1
    rcases q with ⟨z, -⟩ | ⟨-, c', e', z⟩
    · have z : X.env.scope.names.lookup y = some .local := z
      rcases outer with o | o <;> (rw [o] at z; cases z)
    · have := nm.sub y c e
      rw [e'] at this
      obtain rfl : c' = c := Option.some.inj this
      exact ⟨_, e, z.keeps old⟩
  case ok =>
    have o := I.ok
    refine { mod := o.mod, kind := (by subst hce; exact ok.kind), glob := (by subst hce; exact o.glob), blt := (by subst hce; exact o.blt), above := (by show _ ≤ ce.locals; rw [eL]; exact nC), inj := fun x y c a b => o.inj x y c (nm.sub x c a) (nm.sub y c b), has := (fun y h => ?has), cab := (fun y c h _ => ?cab), hd := o.hd, frames := o.frames, stk := .inl rfl, exf := fun b m => ⟨(by show b ≠ ce.locals; rw [eL]; exact (ground b m).2), fun y c e => (ground b m).1.2.2.2.2.1 y c (nm.sub y c e)⟩, bs := I.bs, bsz := Nat.le_trans o.bsz I.sz, noex := (fun b ob e m => ?noex), exfs := (fun b m z => ?exfs), funs := I.stack, frf := I.stkFree }
    case has =>
      rcases h with h | h
      · exact nm.has y (knd h (.inl rfl))
      · exact nm.has y (knd h (.inr rfl))
    case cab =>
      have h : scope.names.lookup y = some .cell := by simpa using (show (scope.names.lookup y == some NameKind.cell) = true from h)
      exact absurd rfl (hcell _ (PySem.mem_of_lookup h))
    case noex =>
      rcases (ground b m).1.2.2.2.1 with z | z
      · exact o.noex b ob e z
      · exact absurd (Nat.lt_of_lt_of_le (Heap.lt_size e) (Nat.le_trans o.bsz z)) (Nat.lt_irrefl _)
    case exfs =>
      rcases List.mem_cons.mp (I.stkSub b z) with z | z
      · exact (ground b m).1.2.1 z
      · exact (ground b m).1.2.2.1 z
end PV

namespace PV
open PySem L2 PyProof.Rows
/-- a list of n things is walked, whatever things of it are exchanged meanwhile -/
def StV (I l : Addr) (n i : Nat) (h : Heap) : Prop := h.IsListIter I l i ∧ ∃ its : Array Value, its.size = n ∧ h.IsList l its
def YdV (l : Addr) (i : Nat) (v : Value) (h : Heap) : Prop := ∃ its : Array Value, its[i]? = some v ∧ h.IsList l its
theorem goes_var {prog : Program} {w : World} {A : Around} {target : Expr} (hh : A.handled = none) {I l : Addr} (hne : l ≠ I) (n : Nat) : Goes prog w A target I [I, l] [I] n (YdV l) (StV I l n) := by
  have rule := fun its : Array Value => Goes.list (prog := prog) (w := w) (target := target) hh I l hne its
  constructor
  · exact (rule #[]).sub
  · rintro i h h' ⟨a, its, e, b⟩ keep
    obtain ⟨a', b'⟩ := (rule its).frame i h h' ⟨a, b⟩ keep
    exact ⟨a', its, e, b'⟩
  · rintro i s Q E hi ⟨a, its, rfl, b⟩ hQ
    refine (rule its).goes i s Q E hi ⟨a, b⟩ fun v h' tk hv st keep ht => ?_
    exact hQ v h' tk ⟨its, hv, st.2⟩ ⟨st.1, its, rfl, st.2⟩ keep ht
  · rintro s Q E ⟨a, its, rfl, b⟩ hQ
    exact (rule its).stops s Q E ⟨a, b⟩ hQ
  · rintro i s Q E ⟨a, its, rfl, b⟩ q
    exact (rule its).self i s Q E ⟨a, b⟩ q
/-- [elt for x in it], x in slot i; what is told so far is no part of the memory till the end; the element may raise -/
def eLcG (T : TI3) (i : Nat) (B : TE3) : TE3 := fun s m k x => T s m (fun l R m1 => ∃ P : List D → Mp → Prop, P [] m1 ∧ (∀ acc m, acc.length ≤ l.length → P acc m → R m) ∧
  (∀ acc d m, l[acc.length]? = some d → P acc m → B (s.set i (some d)) m (fun y m4 => P (acc ++ [y]) m4) x) ∧
  ∀ acc m, acc.length = l.length → P acc m → ∀ q, m q = none → k (.ref q) (mset m q (.lst acc))) x
theorem mono_lcG {T : TI3} {B : TE3} {i : Nat} (ha : MonoI T) (hb : MonoE B) : MonoE (eLcG T i B) := fun s m k k' x x' hk hx h =>
  ha _ _ _ _ _ _ (fun l R m1 ⟨P, a, b, c, d⟩ => ⟨P, a, b, fun acc d m q z => hb _ _ _ _ _ _ (fun _ _ h => h) hx (c acc d m q z), fun acc m q z w hw => hk _ _ (d acc m q z w hw)⟩) hx h
theorem x_lcG {T : TI3} {B : TE3} {i : Nat} {s : S3} {m : Mp} {k : K3} {x : X3} (h : T s m (fun l R m1 => ∃ P : List D → Mp → Prop, P [] m1 ∧ (∀ acc m, acc.length ≤ l.length → P acc m → R m) ∧
  (∀ acc d m, l[acc.length]? = some d → P acc m → B (s.set i (some d)) m (fun y m4 => P (acc ++ [y]) m4) x) ∧
  ∀ acc m, acc.length = l.length → P acc m → ∀ q, m q = none → k (.ref q) (mset m q (.lst acc))) x) : eLcG T i B s m k x := h
end PV

namespace PV
open PySem L2 PyProof.Rows
/-- what a comprehension walks: the things l, from an iterator that goes on while R holds of the memory -/
structure Src (X : Cx) (cl : Cl) (tg : Expr) (it : Addr) (fp : List Addr) (l : List D) (R : Mp → Prop) (H0 : Hp) (Y : Nat → Value → Heap → Prop) (St : Nat → Heap → Prop) : Prop where
  goes : Goes X.prog X.w X.A tg it fp [it] l.length Y St
  obj : ∀ i h, St i h → ∃ o, h.get? it = some o ∧ ∀ v, o.data ≠ .cell v
  item : ∀ (Z : Cx) (pins : List (Addr × Obj)) (σ : L2.St) (H : Hp) (s : Shared) (m : Mp) (i : Nat) (v : Value) (d : D), Z.K = X.K → Inv Z pins σ H s → Ab X.K cl H m → Ext H0 H → R m → l[i]? = some d → Y i v s.heap → ∃ u, Rep X.K H d u ∧ RelV u v
  again : ∀ (Z : Cx) (pins : List (Addr × Obj)) (σ : L2.St) (H : Hp) (s : Shared) (m : Mp) (i : Nat) (h : Heap), Z.K = X.K → Inv Z pins σ H s → Ab X.K cl H m → Ext H0 H → R m → St i h → (∀ o, h.get? it = some o → s.heap.get? it = some o) → St i s.heap
section
variable {X : Cx} {cl : Cl} {W : WX} {B : TE3} {i : Nat} {x : Str} {a e : Expr} {scope : Scope} {p1 pos : Pos}
theorem in_two {α : Type} {b u v : α} (h : b ∈ [u, v]) : b = u ∨ b = v := by simpa using h
/-- the names of the block are found -/
theorem blk_clos {pins : List (Addr × Obj)} {σ : L2.St} {H : Hp} {s : Shared} (I : Inv X pins σ H s) (ok : BlkOk X.N X.env.scope scope [(x, i)]) : closureFor scope X.env = pure (cloFrom X.env.cells scope.names []) :=
  closure_ok fun y m q => (ok.free y m q).elim (fun z => I.ok.has _ (.inl z)) fun z => I.ok.has _ (.inr z)
/-- the turns of a comprehension whose element may raise: what is told so far is no part of the memory till the end -/
theorem lc_turns {pins : List (Addr × Obj)} {σ : L2.St} {H1 : Hp} {s2 : Shared} {it : Addr} {fp : List Addr} {l : List D} {R : Mp → Prop} {Y : Nat → Value → Heap → Prop} {St : Nat → Heap → Prop} {sl : S3} {m1 : Mp} {P : List D → Mp → Prop} {use : Option (Value → Sem Unit)} {Q : Value → Shared → Prop}
    (tk : Takes X W) (hst : X.stack = X.env :: X.outer) (hef : X.env.frame = some X.env.locals) (hN : X.N.Nodup) (ok : BlkOk X.N X.env.scope scope [(x, i)]) (hcell : ∀ z ∈ scope.names, z.2 ≠ .cell)
    (hg : ∀ (s : Shared) (H : Hp) (C : Addr) (cz : List (Str × Addr)) (fp : List Addr) (xe : Value → Shared → Prop), PG (blkX X s H scope (compEnvC scope cz C X.env) fp xe) (.Name x p1) (gName i))
    (hb : ∀ (s : Shared) (H : Hp) (C : Addr) (cz : List (Str × Addr)) (fp : List Addr) (xe : Value → Shared → Prop) (σ : L2.St), Takes (blkX X s H scope (compEnvC scope cz C X.env) fp xe) (wAt W σ) → QE (blkX X s H scope (compEnvC scope cz C X.env) fp xe) cl (wAt W σ) e B)
    (I2 : Inv X pins σ H1 s2) (src : Src X cl (.Name x p1) it fp l R H1 Y St) (st0 : St 0 s2.heap) (low : ∀ b ∈ fp, b < s2.heap.objs.size) (fit : FpOk X pins H1 it) (lim : l.length ≤ sizeLine) (hs0 : RepS X.K H1 sl σ) (hm1 : Ab X.K cl H1 m1)
    (P0 : P [] m1) (PR : ∀ acc m, acc.length ≤ l.length → P acc m → R m) (Pstep : ∀ acc d m, l[acc.length]? = some d → P acc m → B (sl.set i (some d)) m (fun y m4 => P (acc ++ [y]) m4) (cX X.K cl W H1 σ))
    (fin : ∀ (q : Addr) (ce : Env) (s : Shared) (H' : Hp) (acc : List D) (m : Mp), Inv X pins σ H' s → FpOk X pins H' ce.locals → (∃ mC, s.heap.Ns ce.locals mC) → Ab X.K cl H' (mset m q (.lst acc)) → Ext H1 H' → acc.length = l.length → P acc m → m q = none → compEnds (model X.prog X.w) X.A X.xe use Q (.ref q) ce (.ok .next) s) :
    LcGoes X.prog X.w X.A X.xe X.env scope (cloFrom X.env.cells scope.names []) (.Name x p1) [] e use Q (.ref it) s2 := by
  obtain ⟨oI, itAt, itOk⟩ := src.obj 0 _ st0
  have itLt := Heap.lt_size itAt
  refine ⟨it, fp, [it], l.length, Y, St, rfl, src.goes, lim, st0, low, fun D C s3 hbeg => ?_⟩
  have nD := hbeg.newD
  have nC := hbeg.newC
  have neDC := hbeg.ne
  have fitS : ∀ b ∈ [it], FpOk X pins H1 b ∧ b < s2.heap.objs.size := fun b hb => by rw [List.mem_singleton.mp hb]; exact ⟨fit, itLt⟩
  obtain ⟨xb, hxb⟩ : ∃ xb, xb = notedBy (model X.prog X.w) X.A (compEnvC scope (cloFrom X.env.cells scope.names []) C X.env) (CompFails (model X.prog X.w) X.A X.xe (compEnvC scope (cloFrom X.env.cells scope.names []) C X.env)) := ⟨_, rfl⟩
  have start := blk_begins (xe := xb) I2 ok hN hcell hbeg fitS
  have grd : ∀ b ∈ [D, it], FpOk X pins H1 b := fun b hb => by
    rcases in_two hb with rfl | rfl
    · exact I2.fpOk nD (I2.hok.fresh nD)
    · exact fit
  have pg := hg s2 H1 C (cloFrom X.env.cells scope.names []) [D, it] xb
  have pe := hb s2 H1 C (cloFrom X.env.cells scope.names []) [D, it] xb σ fun u s' z => by
    rw [hxb]; exact comp_out (cenv := compEnvC scope (cloFrom X.env.cells scope.names []) C X.env) hst hef tk I2 grd nC rfl z
  have eL : (compEnvC scope (cloFrom X.env.cells scope.names []) C X.env).locals = C := rfl
  generalize compEnvC scope (cloFrom X.env.cells scope.names []) C X.env = ce at *
  have free0 : ∀ b ∈ [D, it], H1 b = none := fun b hb => (grd b hb).1
  -- what stands between two turns: what is told so far is acc
  refine ⟨fun k ys s => ∃ H' m acc us, Inv (blkX X s2 H1 scope ce [D, it] xb) [] (wipe σ [i]) H' s ∧ (∀ b ∈ [D, it], H' b = none) ∧ Ab X.K cl H' m ∧ Ext H1 H' ∧ P acc m ∧ acc.length = k ∧ Reps X.K H' acc us ∧ Vals us ys,
    ⟨H1, m1, [], [], start, free0, hm1, Ext.refl _, P0, rfl, rfl, .nil⟩, ?keep, ?turn, ?fin⟩
  case keep =>
    rintro k ys s h' tks ⟨H', m, acc, us, J, n0, rest⟩ same -
    refine ⟨H', m, acc, us, J.turnedL (ch := [D, it]) same fun b hb => ?_, n0, rest⟩
    exact ⟨n0 b hb, (J.ok.exf b hb).1, J.ok.exfs b hb, .inl hb, (J.ok.exf b hb).2, fun q m => absurd m (by simp)⟩
  case turn =>
    rintro k v ys s hk yv st ⟨H', m, acc, us, J, n0, hm, ext, Pm, rfl, ra, va⟩ pld
    have fpo : ∀ b ∈ [D, it], FpOk (blkX X s2 H1 scope ce [D, it] xb) [] H' b := fun b hb => ⟨n0 b hb, (J.ok.exf b hb).1, J.ok.exfs b hb, .inl hb, (J.ok.exf b hb).2, fun q m => absurd m (by simp)⟩
    obtain ⟨nPl, plD⟩ := id pld
    obtain ⟨oT, gT, kT⟩ := src.obj _ _ st
    have pinned := J.pinned fpo fun b hb => by
      rcases in_two hb with rfl | rfl
      · exact ⟨_, plD, fun _ z => by cases z⟩
      · exact ⟨_, gT, kT⟩
    have hd := List.getElem?_eq_getElem hk
    obtain ⟨u, ru, rv⟩ := src.item (blkX X s2 H1 scope ce [D, it] xb) _ _ _ _ m _ v _ rfl J hm ext (PR acc m (Nat.le_of_lt hk) Pm) hd yv
    have raise : ∀ u s', xb u s' → notedBy (model X.prog X.w) X.A ce (CompFails (model X.prog X.w) X.A X.xe ce) u s' := fun u s' z => by rw [hxb] at z; exact z
    refine wpAny_mono (pg.run _ s (wipe σ [i]) H' u v (fun σ2 H2 => σ2 = (wipe σ [i]).set i (some u) ∧ H2 = H') pinned rv ⟨rfl, rfl⟩) (fun _ s4 ⟨σ4, H4, J4, e4, e5⟩ => ?_) raise
    have e5 := e5.symm
    subst e4 e5
    refine wpAny_tests_nil ?_
    rw [if_pos rfl]
    have hsl : RepS X.K H' (sl.set i (some l[acc.length])) ((wipe σ [i]).set i (some u)) := (hs0.mono ext).wipe1 ru i
    have way := pe.mono _ _ _ _ _ (cX X.K cl (wAt W σ) H' ((wipe σ [i]).set i (some u))) (fun y m6 q z H6 r hm6 e6 => (⟨y, m6, r, hm6, e6, q⟩ : ∃ y m6, Rep X.K H6 y z ∧ Ab X.K cl H6 m6 ∧ Ext H' H6 ∧ P (acc ++ [y]) m6)) (fun ex m6 q c dd H6 r hm6 e6 => q c dd H6 r hm6 (ext.trans e6)) (Pstep acc _ m hd Pm)
    refine wpAny_mono (pe.run.run _ s4 _ H' (fun z H6 => ∃ y m6, Rep X.K H6 y z ∧ Ab X.K cl H6 m6 ∧ Ext H' H6 ∧ P (acc ++ [y]) m6) J4 ⟨_, m, hsl, hm, way⟩) (fun w s6 ⟨z, H6, J6, rz, y, m6, ry, hm6, e6, P6⟩ => ?_) raise
    have stay : ∀ b ∈ [D, it], ∀ o, s.heap.get? b = some o → s6.heap.get? b = some o ∧ H6 b = none := fun b hb o q => by
      obtain ⟨q1, q2, -⟩ := J6.pin (b, o) (List.mem_append_right _ (List.mem_append_right _ (mem_pinsAt hb q)))
      exact ⟨q1, q2⟩
    have len : (acc ++ [y]).length = acc.length + 1 := by simp
    refine ⟨⟨H6, m6, acc ++ [y], us ++ [z], J6.unpinned.weak ?_ ?_, fun b hb => ?_, hm6, ext.trans e6, P6, len, (ra.mono e6).append (.one ry), va.append (.cons rz .nil)⟩, ?_, ⟨nPl, (stay D (by simp) _ plD).1⟩⟩
    · rw [List.length_set]
    · intro j c q
      have neq : j ≠ i := fun z => (wipe_some (vs := [i]) q).2 (by simp [z])
      rw [List.getElem?_set_ne neq.symm]; exact q
    · rcases in_two hb with rfl | rfl
      · exact (stay _ (by simp) _ plD).2
      · exact (stay _ (by simp) _ gT).2
    · exact src.again (blkX X s2 H1 scope ce [D, it] xb) _ _ _ _ m6 _ _ rfl J6 hm6 (ext.trans e6) (PR _ _ (by rw [len]; exact hk) P6) st fun o q => (stay it (by simp) o q).1
  case fin =>
    rintro ys s ⟨H', m, acc, us, J, n0, hm, ext, Pm, el, ra, va⟩ ⟨cD, plD⟩
    have J0 : Inv X pins σ H' s := I2.call' (ch := [D, it]) J.os J.base J.hok J.bare fun b hb => ⟨(grd b hb).2.2.2.1, (grd b hb).2.1, (grd b hb).2.2.2.2.1, (grd b hb).2.2.2.2.2⟩
    have fD : FpOk X pins H' D := I2.fpOk nD (n0 D (by simp))
    have nG : X.s_0.heap.get? D = none := Option.eq_none_iff_forall_ne_some.mpr fun o q => absurd (Nat.lt_of_lt_of_le (Heap.lt_size q) (Nat.le_trans I2.sz nD)) (Nat.lt_irrefl _)
    have J1 := inv_adopt (o := .lst us) J0 fD.1 fD.2.1 fD.2.2.2.2.1 fD.2.2.2.2.2 nG ⟨by rw [← ra.length, el]; exact lim, ys, cD, va, plD⟩
    have freeC : upd H' D (.lst us) ce.locals = none := by rw [eL, upd_ne neDC.symm, ← eL]; exact J.free
    obtain ⟨mC, nsC, -⟩ := J.loc
    have m0 := hm.free (n0 D (by simp))
    exact fin D ce s _ acc m J1 (I2.fpOk (by rw [eL]; exact nC) freeC) ⟨mC, nsC⟩ (new_lst hm (n0 D (by simp)) ra) (ext.trans (Ext.new (n0 D (by simp)))) el Pm m0
/-! ### sources -/
/-- an iterator has come, with what it walks -/
def SrcAt (X : Cx) (cl : Cl) (pins : List (Addr × Obj)) (σ : L2.St) (tg : Expr) (H : Hp) (G : List D → (Mp → Prop) → Mp → Prop) (itv : Value) (s2 : Shared) : Prop :=
  ∃ it fp l R Y St H1 m1, itv = .ref it ∧ Inv X pins σ H1 s2 ∧ Src X cl tg it fp l R H1 Y St ∧ St 0 s2.heap ∧ (∀ b ∈ fp, b < s2.heap.objs.size) ∧ FpOk X pins H1 it ∧ l.length ≤ sizeLine ∧ Ab X.K cl H1 m1 ∧ Ext H H1 ∧ G l R m1
structure QSr (X : Cx) (cl : Cl) (W : WX) (tg a : Expr) (T : TI3) : Prop where
  mono : MonoI T
  run : ∀ (pins : List (Addr × Obj)) (s : Shared) (σ : L2.St) (H : Hp) (sl : S3) (m : Mp) (G : List D → (Mp → Prop) → Mp → Prop), Inv X pins σ H s → RepS X.K H sl σ → Ab X.K cl H m → T sl m G (cX X.K cl W H σ) →
    wpAny (model X.prog X.w) X.A (eval a X.env) (fun v s1 => wpAny (model X.prog X.w) X.A (pyIter v) (SrcAt X cl pins σ tg H G) X.xe s1) X.xe s
/-! ### the comprehension, told or kept under a name -/
theorem q_lcG {T : TI3} (tk : Takes X W) (hst : X.stack = X.env :: X.outer) (hef : X.env.frame = some X.env.locals) (hN : X.N.Nodup) (ha : QSr X cl W (.Name x p1) a T) (ok : BlkOk X.N X.env.scope scope [(x, i)]) (hcell : ∀ z ∈ scope.names, z.2 ≠ .cell)
    (hg : ∀ (s : Shared) (H : Hp) (C : Addr) (cz : List (Str × Addr)) (fp : List Addr) (xe : Value → Shared → Prop), PG (blkX X s H scope (compEnvC scope cz C X.env) fp xe) (.Name x p1) (gName i))
    (hb : ∀ (s : Shared) (H : Hp) (C : Addr) (cz : List (Str × Addr)) (fp : List Addr) (xe : Value → Shared → Prop) (σ : L2.St), Takes (blkX X s H scope (compEnvC scope cz C X.env) fp xe) (wAt W σ) → QE (blkX X s H scope (compEnvC scope cz C X.env) fp xe) cl (wAt W σ) e B)
    (hfs : ∀ z, foldedSetIterable a X.env z = pure z) : QE X cl W (.ListComp e [⟨.Name x p1, a, [], 0⟩] scope pos) (eLcG T i B) := by
  have mB : MonoE B := (hb X.s_0 X.H_0 0 [] [] (fun _ _ => True) [] fun _ _ _ => True.intro).mono
  refine ⟨mono_lcG ha.mono mB, ⟨fun pins s0 σ H Q I0 ⟨sl, m0, hs0, hm0, h⟩ => ?_⟩⟩
  refine ListComp_goes (blk_clos I0 ok) hcell ok.kind (fun y m q => (ok.uniq y m).trans (congrArg some q)) ?_ hfs
  refine wpAny_mono (ha.run pins s0 σ H sl m0 _ I0 hs0 hm0 h) (fun v s1 h1 => wpAny_mono h1 (fun itv s2 h2 => ?_) fun _ _ z => z) fun _ _ z => z
  obtain ⟨it, fp, l, R, Y, St, H1, m1, rfl, I2, src, st0, low, fit, lim, hm1, e1, P, P0, PR, Pstep, Pend⟩ := h2
  refine lc_turns tk hst hef hN ok hcell hg hb I2 src st0 low fit lim (hs0.mono e1) hm1 P0 PR (fun acc d m q z => mB _ _ _ _ _ _ (fun _ _ h => h) (fun ex m6 q c dd H6 r hm6 e6 => q c dd H6 r hm6 (e1.trans e6)) (Pstep acc d m q z)) fun q ce s H' acc m J fC ⟨mC, ns⟩ hm e2 len Pm mq => ?_
  exact ⟨mC, ns, fun h' sb => ⟨.ref q, H', J.turned (t' := s.toks) (it := ce.locals) (fun b o n q => (sb.2 b n).trans q) fC.1 fC.2.1 fC.2.2.2.1 fC.2.2.2.2.1 fC.2.2.2.2.2, rfl, Pend acc m len Pm q mq _ _ rfl hm (e1.trans e2)⟩⟩
end
end PV

/-! What a comprehension with a raising element may walk: a list, a tuple, range(n). -/
namespace PV
open PySem L2 PyProof.Rows
section
variable {X : Cx} {cl : Cl} {W : WX} {A : TE3} {R : TA3} {a tg : Expr} {p pos : Pos}
theorem src_list {H0 : Hp} {q it : Addr} {l : List D} (hh : X.A.handled = none) (ne : q ≠ it) : Src X cl tg it [it, q] l (fun m => RL m q l) H0 (YdV q) (StV it q l.length) where
  goes := goes_var hh ne _
  obj := fun i h ⟨⟨o, ho, _, hd⟩, _⟩ => ⟨o, ho, fun v z => by rw [hd] at z; cases z⟩
  item := by
    rintro Z pins σ H s m i v d hZ J hm - r hd ⟨its, hv, o, g, _, c, dat⟩
    obtain ⟨vs, sq, rp⟩ := hm.rl r
    obtain ⟨its2, va, ⟨o2, c2, g2, -, -, d2⟩, -⟩ := J.list (hZ ▸ sq)
    rw [g] at g2; cases g2
    rw [dat] at d2; cases d2
    obtain ⟨u, hu, ru⟩ := rp.get hd
    obtain ⟨v', hv', rv⟩ := va.get hu
    have : some v' = some v := by rw [← hv', ← hv]; simp
    cases this
    exact ⟨u, ru, rv⟩
  again := by
    rintro Z pins σ H s m i h hZ J hm - r ⟨⟨o, ho, c, d⟩, _⟩ stay
    obtain ⟨vs, sq, rp⟩ := hm.rl r
    obtain ⟨its2, va, ⟨o2, c2, g2, k2, -, d2⟩, -⟩ := J.list (hZ ▸ sq)
    exact ⟨⟨o, stay o ho, c, d⟩, its2.toArray, by rw [List.size_toArray, ← va.length, ← rp.length], o2, g2, k2, c2, d2⟩
/-- a tuple of n things is walked -/
def StT (I l : Addr) (n i : Nat) (h : Heap) : Prop := h.IsTupleIter I l i ∧ ∃ its : Array Value, its.size = n ∧ h.IsTuple l its
def YdT (l : Addr) (i : Nat) (v : Value) (h : Heap) : Prop := ∃ its : Array Value, its[i]? = some v ∧ h.IsTuple l its
theorem goes_varT {prog : Program} {w : World} {A : Around} {target : Expr} (hh : A.handled = none) {I l : Addr} (hne : l ≠ I) (n : Nat) : Goes prog w A target I [I, l] [I] n (YdT l) (StT I l n) := by
  have rule := fun its : Array Value => Goes.tuple (prog := prog) (w := w) (target := target) hh I l hne its
  constructor
  · exact (rule #[]).sub
  · rintro i h h' ⟨a, its, e, b⟩ keep
    obtain ⟨a', b'⟩ := (rule its).frame i h h' ⟨a, b⟩ keep
    exact ⟨a', its, e, b'⟩
  · rintro i s Q E hi ⟨a, its, rfl, b⟩ hQ
    refine (rule its).goes i s Q E hi ⟨a, b⟩ fun v h' tk hv st keep ht => ?_
    exact hQ v h' tk ⟨its, hv, st.2⟩ ⟨st.1, its, rfl, st.2⟩ keep ht
  · rintro s Q E ⟨a, its, rfl, b⟩ hQ
    exact (rule its).stops s Q E ⟨a, b⟩ hQ
  · rintro i s Q E ⟨a, its, rfl, b⟩ q
    exact (rule its).self i s Q E ⟨a, b⟩ q
theorem src_tup {H0 : Hp} {q it : Addr} {l : List D} {vs : List V} (hh : X.A.handled = none) (ne : q ≠ it) (sq : SqT X.K H0 q vs) (rp : Reps X.K H0 l vs) : Src X cl tg it [it, q] l (fun _ => True) H0 (YdT q) (StT it q l.length) where
  goes := goes_varT hh ne _
  obj := fun i h ⟨⟨o, ho, _, hd⟩, _⟩ => ⟨o, ho, fun v z => by rw [hd] at z; cases z⟩
  item := by
    rintro Z pins σ H s m i v d hZ J hm e0 - hd ⟨its, hv, o, g, _, n1, dat⟩
    obtain ⟨its2, va, ⟨o2, g2, -, n2, d2⟩, -⟩ := J.tuple (hZ ▸ e0.sqT sq)
    rw [g] at g2; cases g2
    rw [dat] at d2; cases d2
    obtain ⟨u, hu, ru⟩ := (rp.mono e0).get hd
    obtain ⟨v', hv', rv⟩ := va.get hu
    have : some v' = some v := by rw [← hv', ← hv]; simp
    cases this
    exact ⟨u, ru, rv⟩
  again := by
    rintro Z pins σ H s m i h hZ J hm e0 - ⟨⟨o, ho, c, d⟩, _⟩ stay
    obtain ⟨its2, va, tup, -⟩ := J.tuple (hZ ▸ e0.sqT sq)
    exact ⟨⟨o, stay o ho, c, d⟩, its2.toArray, by rw [List.size_toArray, ← va.length, ← rp.length], tup⟩
/-- a list, a tuple: walked by a comprehension whose element may raise -/
def iGo (A : TE3) : TI3 := fun s m k x => A s m (fun d m1 => (∃ q l, d = .ref q ∧ RL m1 q l ∧ k l (fun m => RL m q l) m1) ∨ ∃ l, d = .tup l ∧ k l (fun _ => True) m1) x
theorem x_go {s : S3} {m : Mp} {k : List D → (Mp → Prop) → Mp → Prop} {x : X3} (h : A s m (fun d m1 => (∃ q l, d = .ref q ∧ RL m1 q l ∧ k l (fun m => RL m q l) m1) ∨ ∃ l, d = .tup l ∧ k l (fun _ => True) m1) x) : iGo A s m k x := h
theorem sr_go (hc : X.calm = true) (ha : QE X cl W a A) : QSr X cl W tg a (iGo A) where
  mono := fun s m k k' x x' hk hx h => ha.mono _ _ _ _ _ _ (fun d m1 z => z.imp (fun ⟨q, l, e, r, w⟩ => ⟨q, l, e, r, hk _ _ _ w⟩) fun ⟨l, e, w⟩ => ⟨l, e, hk _ _ _ w⟩) hx h
  run := fun pins s0 σ H sl m G I hs0 hm0 h => by
    refine wpAny_mono (ha.run.run pins s0 σ H (fun v H1 => ∃ d m1, Rep X.K H1 d v ∧ Ab X.K cl H1 m1 ∧ Ext H H1 ∧ ((∃ q l, d = .ref q ∧ RL m1 q l ∧ G l (fun m => RL m q l) m1) ∨ ∃ l, d = .tup l ∧ G l (fun _ => True) m1)) I
      ⟨sl, m, hs0, hm0, ha.mono _ _ _ _ _ _ (fun d m1 z v H1 r hm1 e => ⟨d, m1, r, hm1, e, z⟩) (fun _ _ z => z) h⟩) ?_ fun _ _ z => z
    rintro u s1 ⟨v, H1, I1, rv, d, m1, r, hm1, e1, ⟨q, l, rfl, rl, g⟩ | ⟨l, rfl, g⟩⟩
    · obtain rfl : v = .ref q := r
      cases rv
      obtain ⟨vs, sq, rps⟩ := hm1.rl rl
      obtain ⟨its, vals, pl, lim⟩ := I1.list sq
      have there := Heap.lt_size pl.isList.choose_spec.1
      refine wpAny_pyIter_list pl.isList ?_
      have ne : q ≠ s1.heap.objs.size := Nat.ne_of_lt there
      have keep : ∀ b o, s1.heap.get? b = some o → (s1.heap.push { cls := .type "list_iterator", data := .fields #[.ref q, .int 0 0] }).get? b = some o := fun _ _ => Heap.get?_push_of_some _
      have low : ∀ b, b ≤ s1.heap.objs.size → b < (s1.heap.push { cls := .type "list_iterator", data := .fields #[.ref q, .int 0 0] }).objs.size := fun b z => by rw [size_push']; exact Nat.lt_succ_of_le z
      refine ⟨s1.heap.objs.size, _, l, _, _, _, H1, m1, rfl, I1.kept (t' := s1.toks) keep, src_list (I.ok.hd hc) ne, ⟨⟨_, Heap.get?_push_size _ rfl, rfl, rfl⟩, its.toArray, by rw [List.size_toArray, ← vals.length, ← rps.length], pl.isList.imp fun o z => ⟨keep _ _ z.1, z.2⟩⟩, fun b hb => ?_, I1.fpOk (Nat.le_refl _) (I1.hok.fresh (Nat.le_refl _)), rps.length ▸ lim, hm1, e1, g⟩
      rcases in_two hb with rfl | rfl
      · exact low _ (Nat.le_refl _)
      · exact low _ (Nat.le_of_lt there)
    · obtain ⟨q, vs, rfl, sq, rps⟩ := r
      cases rv
      obtain ⟨its, vals, tup, lim⟩ := I1.tuple sq
      obtain ⟨o, g0, k0⟩ := id tup
      have there := Heap.lt_size g0
      refine wpAny_pyIter_tuple (show s1.heap.IsTuple q its.toArray from tup) ?_
      have ne : q ≠ s1.heap.objs.size := Nat.ne_of_lt there
      have keep : ∀ b o, s1.heap.get? b = some o → (s1.heap.push { cls := .type "tuple_iterator", data := .fields #[.ref q, .int 0 0] }).get? b = some o := fun _ _ => Heap.get?_push_of_some _
      have low : ∀ b, b ≤ s1.heap.objs.size → b < (s1.heap.push { cls := .type "tuple_iterator", data := .fields #[.ref q, .int 0 0] }).objs.size := fun b z => by rw [size_push']; exact Nat.lt_succ_of_le z
      refine ⟨s1.heap.objs.size, _, l, _, _, _, H1, m1, rfl, I1.kept (t' := s1.toks) keep, src_tup (I.ok.hd hc) ne sq rps, ⟨⟨_, Heap.get?_push_size _ rfl, rfl, rfl⟩, its.toArray, by rw [List.size_toArray, ← vals.length, ← rps.length], ⟨o, keep _ _ g0, k0⟩⟩, fun b hb => ?_, I1.fpOk (Nat.le_refl _) (I1.hok.fresh (Nat.le_refl _)), rps.length ▸ lim, hm1, e1, g⟩
      rcases in_two hb with rfl | rfl
      · exact low _ (Nat.le_refl _)
      · exact low _ (Nat.le_of_lt there)
/-! ### range(n) -/
theorem src_rng {H0 : Hp} {it : Addr} {n : Nat} (hh : X.A.handled = none) : Src X cl tg it [it] (rngD 0 1 n) (fun _ => True) H0 (fun i v _ => ∃ t, v = .int (0 + (i : Nat) * 1) t) (fun i h => IsRangeIter h it (0 + (i : Nat) * 1) ((n : Int) - (i : Nat)) 1) where
  goes := by rw [rngD_length]; exact Goes.range hh it 0 1 n
  obj := fun i h z => ⟨_, z, fun v y => nomatch (show Data.fields _ = Data.cell v from y)⟩
  item := by
    rintro Z pins σ H s m i v d hZ J hm - - hd ⟨t, rfl⟩
    obtain ⟨-, rfl⟩ := rngD_get hd
    exact ⟨_, rfl, t, rfl⟩
  again := fun Z pins σ H s m i h hZ J hm _ _ z stay => stay _ z
/-- range(n), n no more than a million -/
def iGr (R : TA3) : TI3 := fun s m k x => R s m (fun ds m1 => ∃ n : Nat, ds = [.int (n : Int)] ∧ n ≤ 1000000 ∧ k (rngD 0 1 n) (fun _ => True) m1) x
theorem x_gr {s : S3} {m : Mp} {k : List D → (Mp → Prop) → Mp → Prop} {x : X3} (h : R s m (fun ds m1 => ∃ n : Nat, ds = [.int (n : Int)] ∧ n ≤ 1000000 ∧ k (rngD 0 1 n) (fun _ => True) m1) x) : iGr R s m k x := h
theorem sr_rng (hc : X.calm = true) (hg : Gl X "range") (hm : X.mg "range" = none) (ha : QA X cl W [a] R) (hs : starEach [a] X.env = [(false, eval a X.env)]) : QSr X cl W tg (.Call (.Name "range" p) [a] [] pos) (iGr R) where
  mono := fun s m k k' x x' hk hx h => ha.mono _ _ _ _ _ _ (fun ds m1 ⟨j, e, z, w⟩ => ⟨j, e, z, hk _ _ _ w⟩) hx h
  run := fun pins s0 σ H sl m G I hs0 hm0 h => by
    have args := ha.run.run pos pins s0 σ H (fun vs H1 => ∃ (n : Nat) (m1 : Mp), vs = [.int (n : Int)] ∧ n ≤ 1000000 ∧ Ab X.K cl H1 m1 ∧ Ext H H1 ∧ G (rngD 0 1 n) (fun _ => True) m1) I
      ⟨sl, m, hs0, hm0, ha.mono _ _ _ _ _ _ (fun ds m1 ⟨j, e, b, z⟩ vs H1 r hm1 e1 => by
        subst e
        obtain ⟨v, rfl, q⟩ := reps1 r
        cases q
        exact ⟨j, m1, rfl, b, hm1, e1, z⟩) (fun _ _ z => z) h⟩
    refine Call_ (ld_blt I hg hm PyProof.Rows.boot_range (PyProof.Rows.callWith_type1 (wpAny_mono args ?_ fun _ _ z => z) hs rfl))
    rintro us s1 ⟨_, H1, I1, r, n, m1, rfl, lim, hm1, e1, g⟩
    match us, r with
    | [_], .cons ⟨t, rfl⟩ .nil =>
      have len : Builtin.Range.rangeSize 0 (n : Int) 1 = (n : Int) := by rw [rangeSize_one]; split <;> omega
      refine call_range_1 (wpAny_pyIter_range (IsRange.new _ _ _ _ _ _ _) (small_one (by decide) (by decide) (by omega) (by omega)) ?_)
      rw [len]
      have old : s1.heap.objs.size ≤ (s1.heap.push { cls := .type "range", data := .fields #[.int 0 s1.toks, .int (n : Int) t, .int 1 (s1.toks + 1)] }).objs.size := by rw [size_push']; exact Nat.le_succ _
      refine ⟨_, _, rngD 0 1 n, _, _, _, H1, m1, rfl, I1.kept fun b o e => Heap.get?_push_of_some _ (Heap.get?_push_of_some _ e), src_rng (I.ok.hd hc), ?_, fun b hb => ?_, I1.fpOk old (I1.hok.fresh old), ?_, hm1, e1, g⟩
      · show Heap.get? _ _ = _
        exact (Heap.get?_push_size _ rfl).trans (by simp)
      · rw [List.mem_singleton.mp hb]
        show _ < (Heap.push _ _).objs.size
        rw [size_push' (h := Heap.push _ _)]; exact Nat.lt_succ_self _
      · rw [rngD_length]; exact Nat.le_trans lim (by decide)
end
end PV

/-! y = [a call that may raise for x in ..] -/
namespace PV
open PySem L2 PyProof.Rows
section
variable {X : Cx} {cl : Cl} {W : WX} {B : TE3} {i : Nat} {x : Str} {a e : Expr} {scope : Scope} {p1 pos : Pos}
theorem qs_lcG {T : TI3} {y : Str} {py spos : Pos} {n : Nat} (tk : Takes X W) (hst : X.stack = X.env :: X.outer) (hef : X.env.frame = some X.env.locals) (hN : X.N.Nodup) (hy : PG X (.Name y py) (gName n))
    (hsw : swapsWith (.ListComp e [⟨.Name x p1, a, [], 0⟩] scope pos) (some (.Name y py)) spos.line X.env = pure true) (ha : QSr X cl W (.Name x p1) a T) (ok : BlkOk X.N X.env.scope scope [(x, i)]) (hcell : ∀ z ∈ scope.names, z.2 ≠ .cell)
    (hg : ∀ (s : Shared) (H : Hp) (C : Addr) (cz : List (Str × Addr)) (fp : List Addr) (xe : Value → Shared → Prop), PG (blkX X s H scope (compEnvC scope cz C X.env) fp xe) (.Name x p1) (gName i))
    (hb : ∀ (s : Shared) (H : Hp) (C : Addr) (cz : List (Str × Addr)) (fp : List Addr) (xe : Value → Shared → Prop) (σ : L2.St), Takes (blkX X s H scope (compEnvC scope cz C X.env) fp xe) (wAt W σ) → QE (blkX X s H scope (compEnvC scope cz C X.env) fp xe) cl (wAt W σ) e B)
    (hfs : ∀ z, foldedSetIterable a X.env z = pure z) : QS X cl W (.Assign [.Name y py] (.ListComp e [⟨.Name x p1, a, [], 0⟩] scope pos) spos) (sAsg (eLcG T i B) (gNm n)) := by
  have mB : MonoE B := (hb X.s_0 X.H_0 0 [] [] (fun _ _ => True) [] fun _ _ _ => True.intro).mono
  refine ⟨fun s m D D' l q => mono_lcG ha.mono mB _ _ _ _ _ _ (fun _ _ z => l.nx _ _ z) (fun _ _ z => l.ex _ _ _ z) q, ⟨fun pins s0 σ H D I0 ⟨sl, m0, hs0, hm0, h⟩ => ?_⟩⟩
  have h : eLcG T i B sl m0 (fun d m1 => (cN X.K cl W H D).nx (sl.set n (some d)) m1) (cX X.K cl W H σ) := mono_lcG ha.mono mB _ _ _ _ _ _ (fun _ _ z => z) (fun _ _ z => ex_cX hs0 z) h
  refine Assign_ListComp_goes hsw (blk_clos I0 ok) hcell ok.kind (fun y m q => (ok.uniq y m).trans (congrArg some q)) ?_ hfs
  refine wpAny_mono (ha.run pins s0 σ H sl m0 _ I0 hs0 hm0 h) (fun v s1 h1 => wpAny_mono h1 (fun itv s2 h2 => ?_) fun _ _ z => z) fun _ _ z => z
  obtain ⟨it, fp, l, R, Y, St, H1, m1, rfl, I2, src, st0, low, fit, lim, hm1, e1, P, P0, PR, Pstep, Pend⟩ := h2
  refine lc_turns tk hst hef hN ok hcell hg hb I2 src st0 low fit lim (hs0.mono e1) hm1 P0 PR (fun acc d m q z => mB _ _ _ _ _ _ (fun _ _ h => h) (fun ex m6 q c dd H6 r hm6 e6 => q c dd H6 r hm6 (e1.trans e6)) (Pstep acc d m q z)) fun q ce s H' acc m J fC ⟨mC, ns⟩ hm e2 len Pm mq => ?_
  obtain ⟨oC, _, _, gC, dC, _⟩ := id ns
  have pinned := J.pinned (fp := [ce.locals]) (fun b hb => by rw [List.mem_singleton.mp hb]; exact fC) fun b hb => ⟨oC, by rw [List.mem_singleton.mp hb]; exact gC, fun v z => by rw [dC] at z; cases z⟩
  show wpAny _ X.A (assign (.Name y py) X.env (.ref q)) _ _ s
  refine wpAny_mono (hy.run _ s σ H' (.ref q) (.ref q) (fun σ2 H2 => σ2 = σ.set n (some (.ref q)) ∧ H2 = H') pinned rfl ⟨rfl, rfl⟩) (fun _ s5 ⟨σ5, H5, J5, e5, e6⟩ => ?_) fun _ _ z => z
  subst e5 e6
  refine ⟨mC, ns.at fun o z => (J5.pin (ce.locals, o) (List.mem_append_right _ (List.mem_append_right _ (mem_pinsAt (by simp) z)))).1, fun h' sb => ⟨_, _, J5.unpinned.turned (t' := s5.toks) (it := ce.locals) (fun b o n q => (sb.2 b n).trans q) fC.1 fC.2.1 fC.2.2.2.1 fC.2.2.2.2.1 fC.2.2.2.2.2, ?_⟩⟩
  exact Pend acc m len Pm q mq _ _ ((hs0.mono (e1.trans e2)).set (show Rep X.K _ (.ref q) (.ref q) from rfl) n) hm (e1.trans e2)
end
end PV

/-! tuple(range(n)), n a literal. -/
namespace PV
open PySem L2 PyProof.Rows
section
variable {X : Cx} {cl : Cl} {W : WX} {p p2 pos pos2 pos3 : Pos}
theorem rng_ints {n : Int} : rngD 0 1 n.toNat = ((List.range n.toNat).map fun (i : Nat) => (i : Int)).map D.int := by
  unfold rngD
  rw [List.map_map]
  refine List.map_congr_left fun i _ => ?_
  show D.int (0 + (i : Int) * 1) = D.int (i : Int)
  rw [Int.mul_one, Int.zero_add]
theorem rg_ints {n : Int} : rgV 0 n = ((List.range n.toNat).map fun (i : Nat) => (i : Int)).map V.int := by
  unfold rgV
  rw [List.map_map, Int.sub_zero]
  refine List.map_congr_left fun i _ => ?_
  show V.int (0 + (i : Int)) = V.int (i : Int)
  rw [Int.zero_add]
theorem q_tupR {n : Int} {j} (h0 : (0 ≤ n ∧ n ≤ 16777216)) (hc : X.calm = true) (hg : Gl X "tuple") (hm : X.mg "tuple" = none) (hg2 : Gl X "range") (hm2 : X.mg "range" = none)
    (na : starEach [.Constant (.int n) j pos3] X.env = (false, eval (.Constant (.int n) j pos3) X.env) :: starEach [] X.env := by rfl)
    (nb : starEach [.Call (.Name "range" p2) [.Constant (.int n) j pos3] [] pos2] X.env = (false, eval (.Call (.Name "range" p2) [.Constant (.int n) j pos3] [] pos2) X.env) :: starEach [] X.env := by rfl) :
    QE X cl W (.Call (.Name "tuple" p) [.Call (.Name "range" p2) [.Constant (.int n) j pos3] [] pos2] [] pos) (eLit (.tup (rngD 0 1 n.toNat))) :=
  ⟨mono_lit, PE.imp (pe_tupRg hc hg hm (prg_1 hg2 hm2 pe_int na) nb) fun σ H Q ⟨s, m, hs, hm, h1⟩ =>
    ⟨n, rfl, RgOk.of_le (by decide) h0.2 (by decide) h0.1, fun q hq => h1 (.ref q) _ (rep_tup hq (by rw [rng_ints, rg_ints]; exact Reps.ofInts)) (hm.hid hq) (Ext.new hq)⟩⟩
end
end PV

/-! str.split of one text, str.count. -/
namespace PV
open PySem L2 PyProof.Rows
section
variable {X : Cx} {cl : Cl}
def fSplit (o : D) (ds : List D) (m : Mp) (k : K3) : Prop := ∃ z y : Str, o = .str z ∧ ds = [.str y] ∧ (y.length == 0) = false ∧ z.length + 2 ≤ sizeLine ∧ ∀ p, m p = none → k (.ref p) (mset m p (.lst ((Txt.split z y).map D.str)))
theorem reps_strs {K : PySem.W.Frag} {H : Hp} : ∀ {ys : List Str}, Reps K H (ys.map D.str) (ys.map V.str)
  | [] => rfl
  | y :: ys => ⟨_, _, rfl, rfl, reps_strs⟩
theorem up_split : UpM X cl fSplit (fun x xs H Q => ∃ a b, x = .str a ∧ xs = [.str b] ∧ (b.length == 0) = false ∧ a.length + 2 ≤ sizeLine ∧ rNewStrs (Txt.split a b) H Q) := fun H m o v ds vs Q r1 r2 hm ⟨z, y, e1, e2, h1, h2, h⟩ => by
  subst e1 e2
  have r' : v = .str z := r1
  subst r'
  obtain ⟨w, rfl, rw⟩ := reps1 r2
  cases rw
  exact ⟨z, y, rfl, rfl, h1, h2, fun p hp => h p (hm.free hp) _ _ rfl (new_lst hm hp reps_strs) (Ext.new hp)⟩
theorem mono_split : MonoM fSplit := fun o ds m k k' hk ⟨z, y, e1, e2, h1, h2, h⟩ => ⟨z, y, e1, e2, h1, h2, fun p hp => hk _ _ (h p hp)⟩
def fCntS (o : D) (ds : List D) (m : Mp) (k : K3) : Prop := ∃ z y : Str, o = .str z ∧ ds = [.str y] ∧ k (.int (Txt.count z y)) m
theorem up_cntS : UpM X cl fCntS (fun x xs H Q => ∃ a b, x = .str a ∧ xs = [.str b] ∧ Q (.int (Txt.count a b)) H) := fun H m o v ds vs Q r1 r2 hm ⟨z, y, e1, e2, h⟩ => by
  subst e1 e2
  have r' : v = .str z := r1
  subst r'
  obtain ⟨w, rfl, rw⟩ := reps1 r2
  cases rw
  exact ⟨z, y, rfl, rfl, h _ _ rfl hm (Ext.refl H)⟩
theorem mono_cntS : MonoM fCntS := fun o ds m k k' hk ⟨z, y, e1, e2, h⟩ => ⟨z, y, e1, e2, hk _ _ h⟩
/-! texts: > -/
def fGtS : D → D → Mp → K3 → Prop := fun u v m k => ∃ i j : Str, u = .str i ∧ v = .str j ∧ k (.bl (decide (j.cps.toList < i.cps.toList))) m
theorem mono_gtS : MonoF fGtS := fun u v m k k' hk ⟨i, j, e1, e2, h⟩ => ⟨i, j, e1, e2, hk _ _ h⟩
theorem op_gtS : OpR X (compareOp .Gt) (fun x y H Q => ∃ i j, x = .str i ∧ y = .str j ∧ Q (.bl (decide (j.cps.toList < i.cps.toList))) H) := by
  intro pins s σ H x y v u Q I rx ry ⟨i, j, e1, e2, q⟩
  subst e1 e2
  obtain ⟨t, rfl⟩ := rx
  obtain ⟨t', rfl⟩ := ry
  exact PySem.P.gt_str ⟨.bl _, H, I, rfl, q⟩
theorem up_gtS (H : Hp) (m : Mp) (u v : D) (x y : V) (Q : VK) (rx : Rep X.K H u x) (ry : Rep X.K H v y) (hm : Ab X.K cl H m) (h : fGtS u v m (cE X.K cl H Q)) : ∃ i j, x = .str i ∧ y = .str j ∧ Q (.bl (decide (j.cps.toList < i.cps.toList))) H := by
  obtain ⟨i, j, e1, e2, h⟩ := h
  subst e1 e2
  exact ⟨i, j, rx, ry, h _ _ rfl hm (Ext.refl H)⟩
theorem q_gtS {W : WX} {a b : Expr} {A B : TE3} {pos : Pos} (ha : QE X cl W a A) (hb : QE X cl W b B) : QE X cl W (.Compare a [.Gt] [b] pos) (eBin fGtS A B) := q_cmp op_gtS up_gtS mono_gtS ha hb (nomark _)
theorem t_gtS {W : WX} {a b : Expr} {A B : TE3} {pos : Pos} (ha : QE X cl W a A) (hb : QE X cl W b B) : QT X cl W (.Compare a [.Gt] [b] pos) (tBv (eBin fGtS A B)) := t_cmp op_gtS up_gtS mono_gtS ha hb (nomark _)
/-! str(..) of a number or a text -/
def fStrX : List D → Mp → K3 → Prop := fun ds m k => (∃ i : Int, ds = [.int i] ∧ i.natAbs.log2 < 1920 ∧ k (.str (toString i)) m) ∨ ∃ z : Str, ds = [.str z] ∧ k (.str z) m
theorem q_strX {W : WX} {a : Expr} {rest : List Expr} {R : TA3} {p pos : Pos} (hg : Gl X "str") (hm : X.mg "str" = none) (ha : QA X cl W (a :: rest) R) (he : starEach (a :: rest) X.env = (false, eval a X.env) :: starEach rest X.env) (hpl : (backTo pos (starEach rest X.env)).any (·.1) = false) :
    QE X cl W (.Call (.Name "str" p) (a :: rest) [] pos) (eCB fStrX R) :=
  q_cty (call_str_int.or SkE.call_str_str) (fun H m ds vs Q r hm h => by
    rcases h with ⟨i, e, h1, h2⟩ | ⟨i, e, h2⟩ <;> subst e <;> obtain ⟨v, rfl, q⟩ := reps1 r <;> cases q
    · exact .inl ⟨i, rfl, h1, h2 _ _ rfl hm (Ext.refl H)⟩
    · exact .inr ⟨i, rfl, h2 _ _ rfl hm (Ext.refl H)⟩) (fun ds m k k' hk h => by
    rcases h with ⟨z, e, h1, h2⟩ | ⟨z, e, h2⟩
    · exact .inl ⟨z, e, h1, hk _ _ h2⟩
    · exact .inr ⟨z, e, hk _ _ h2⟩) (by decide +kernel) (by decide) (by decide) hg hm ha he hpl
end
theorem xf_strX {n : Int} {m : Mp} {k : K3} (h0 : n.natAbs.log2 < 1920) (h : k (.str (toString n)) m) : fStrX [.int n] m k := .inl ⟨n, rfl, h0, h⟩
theorem xf_strXs {z : Str} {m : Mp} {k : K3} (h : k (.str z) m) : fStrX [.str z] m k := .inr ⟨z, rfl, h⟩
theorem xf_gtS {i j : Str} {m : Mp} {k : K3} (h : k (.bl (decide (j.cps.toList < i.cps.toList))) m) : fGtS (.str i) (.str j) m k := ⟨i, j, rfl, rfl, h⟩
theorem xf_split {z : Str} {c : Nat} {m : Mp} {k : K3} (h1 : z.cps.toList.length ≤ 100000) (h : ∀ p, m p = none → k (.ref p) (mset m p (.lst ((Txt.split z ⟨#[c]⟩).map D.str)))) : fSplit (.str z) [.str ⟨#[c]⟩] m k :=
  ⟨z, _, rfl, rfl, rfl, by rw [str_len]; exact Nat.le_trans (show z.cps.toList.length + 2 ≤ 100002 by omega) (by decide), h⟩
theorem xf_cntS {z y : Str} {m : Mp} {k : K3} (h : k (.int (Txt.count z y)) m) : fCntS (.str z) [.str y] m k := ⟨z, y, rfl, rfl, h⟩
end PV

namespace PV
open PySem L2 PyProof.Rows
abbrev i_is_value : Nat := 182
def N_is_value : List Str := [(Str.ofString "thing"), (Str.ofString "sign")]
def t_is_value (T : Tb) (L : Nat) : TS3 :=
  sSeq (sIf (tTru (eCB fIsi (aCons (eVar 0) (aCons (eLit (.ty "bool")) (aNil))))) (sRet (eLit (.bl false))) (sNil))
    (sSeq (sIf (tTru (eCB fIsi (aCons (eVar 0) (aCons (eLit (.ty "int")) (aNil))))) (sRet (eChain (fun i j => decide (i ≤ j)) (fun i j => decide (i ≤ j)) (eBin fSub (eLit (.int 0)) (eLit (.int 1000000000000))) (eVar 0) (eLit (.int 1000000000000)))) (sNil))
    (sSeq (sIf (tOr3 (tNot3 (tTru (eCB fIsi (aCons (eVar 0) (aCons (eLit (.ty "str")) (aNil)))))) (tBv (eBin fGt (eCB fLen (aCons (eVar 0) (aNil))) (eLit (.int 20))))) (sRet (eLit (.bl false))) (sNil))
    (sSeq (sFor (iSq (eVar 0)) (gNm 1) (sIf (tBv (eBin (fIn true) (eVar 1) (eLit (.str (Str.ofString " !\"#$&()*+,-./0123456789:<=>?@ABCDEFGHIJKLMNOPQRSTUVWXYZ[\\]^_`abcdefghijklmnopqrstuvwxyz{|}~"))))) (sRet (eLit (.bl false))) (sNil)))
    (sRet (eLit (.bl true))))))
abbrev i_words_in : Nat := 186
def N_words_in : List Str := [(Str.ofString "text"), (Str.ofString "words"), (Str.ofString "quoted"), (Str.ofString "closed"), (Str.ofString "sign")]
def t_words_in (T : Tb) (L : Nat) : TS3 :=
  sSeq (sIf (tNot3 (tTru (eCB fIsi (aCons (eVar 0) (aCons (eLit (.ty "str")) (aNil)))))) (sRs "NoQuestion") (sNil))
    (sSeq (sAsg (eLst (aCons (eLit (.str (Str.ofString ""))) (aNil))) (gNm 1))
    (sSeq (sAsg (eLit (.bl false)) (gNm 2))
    (sSeq (sAsg (eLit (.bl false)) (gNm 3))
    (sSeq (sFor (iSq (eVar 0)) (gNm 4) (sIf (tAnd3 (tBv (eBin fEq (eVar 4) (eLit (.str (Str.ofString " "))))) (tNot3 (tTru (eVar 2)))) (sSeq (sExp (eMt "list" fAppend (eVar 1) (aCons (eLit (.str (Str.ofString ""))) (aNil))))
    (sAsg (eLit (.bl false)) (gNm 3))) (sIf (tOr3 (tTru (eVar 3)) (tAnd3 (tBv (eBin fEq (eVar 4) (eLit (.str (Str.ofString "'"))))) (tAnd3 (tNot3 (tTru (eVar 2))) (tBv (eBin fNe (eBin fIx (eVar 1) (eNeg (eLit (.int 1)))) (eLit (.str (Str.ofString "")))))))) (sRs "NoQuestion") (sSeq (sSub (eVar 1) (eNeg (eLit (.int 1))) (eBin fAdd (eBin fIx (eVar 1) (eNeg (eLit (.int 1)))) (eVar 4)))
    (sIf (tBv (eBin fEq (eVar 4) (eLit (.str (Str.ofString "'"))))) (sSeq (sAsg (eVar 2) (gNm 3))
    (sAsg (eNot (eVar 2)) (gNm 2))) (sNil))))))
    (sSeq (sIf (tOr3 (tTru (eVar 2)) (tBv (eBin (fIn false) (eLit (.str (Str.ofString ""))) (eVar 1)))) (sRs "NoQuestion") (sNil))
    (sRet (eVar 1)))))))
abbrev i_number_of : Nat := 181
def N_number_of : List Str := [(Str.ofString "word"), (Str.ofString "figures"), (Str.ofString "figure")]
def t_number_of (T : Tb) (L : Nat) : TS3 :=
  sSeq (sAsg (eVar 0) (gNm 1))
    (sSeqJ (sIf (tBv (eBin fEq (eSl (eVar 0) (oNone) (oSome (eLit (.int 1)))) (eLit (.str (Str.ofString "-"))))) (sAsg (eSl (eVar 0) (oSome (eLit (.int 1))) (oNone)) (gNm 1)) (sNil))
    (sSeq (sIf (tOr3 (tBv (eBin fLt (eCB fLen (aCons (eVar 1) (aNil))) (eLit (.int 1)))) (tOr3 (tBv (eBin fGt (eCB fLen (aCons (eVar 1) (aNil))) (eLit (.int 13)))) (tAnd3 (tBv (eBin fEq (eBin fIx (eVar 1) (eLit (.int 0))) (eLit (.str (Str.ofString "0"))))) (tBv (eBin fNe (eVar 0) (eLit (.str (Str.ofString "0")))))))) (sRet (eLit .non)) (sNil))
    (sSeq (sFor (iSq (eVar 1)) (gNm 2) (sIf (tBv (eBin (fIn true) (eVar 2) (eLit (.str (Str.ofString "0123456789"))))) (sRet (eLit .non)) (sNil)))
    (sRet (eCB fInt (aCons (eVar 0) (aNil)))))))
abbrev i_value_of : Nat := 189
def N_value_of : List Str := [(Str.ofString "word"), (Str.ofString "value")]
def t_value_of (T : Tb) (L : Nat) : TS3 :=
  sSeq (sAsg (eCall T L 181 (aCons (eVar 0) (aNil))) (gNm 1))
    (sSeqJ (sIf (tAnd3 (tBv (eBin fGt (eCB fLen (aCons (eVar 0) (aNil))) (eLit (.int 1)))) (tAnd3 (tBv (eBin fEq (eBin fIx (eVar 0) (eLit (.int 0))) (eLit (.str (Str.ofString "'"))))) (tBv (eBin fEq (eBin fIx (eVar 0) (eNeg (eLit (.int 1)))) (eLit (.str (Str.ofString "'"))))))) (sAsg (eSl (eVar 0) (oSome (eLit (.int 1))) (oSome (eNeg (eLit (.int 1))))) (gNm 1)) (sNil))
    (sSeq (sIf (tOr3 (tBv (eBin (fIs false) (eVar 1) (eLit .non))) (tNot3 (tTru (eCall T L 182 (aCons (eVar 1) (aNil)))))) (sRs "NoQuestion") (sNil))
    (sRet (eVar 1))))
abbrev i_law_hand : Nat := 190
def N_law_hand : List Str := [(Str.ofString "script"), (Str.ofString "cell"), (Str.ofString "k"), (Str.ofString "way")]
def t_law_hand (T : Tb) (L : Nat) : TS3 :=
  sSeq (sAsg (eLit (.int 0)) (gNm 3))
    (sSeqJ (sIf (tBv (eBin fNe (eVar 0) (eLst (aNil)))) (sAsg (eBin fMod (eCB fSum (aCons (eVar 0) (aNil))) (eLit (.int 2))) (gNm 3)) (sNil))
    (sRet (eLst (aCons (eVar 1) (aCons (eBin fMod (eBin fMul (eBin fAdd (eBin fAdd (eBin fMod (eVar 1) (eLit (.int 2147483629))) (eBin fMul (eLit (.int 7919)) (eVar 2))) (eLit (.int 1))) (eLit (.int 48271))) (eLit (.int 2147483647))) (aCons (eVar 3) (aNil)))))))
abbrev i_law_draw : Nat := 183
def N_law_draw : List Str := [(Str.ofString "hand"), (Str.ofString "limit"), (Str.ofString "got")]
def t_law_draw (T : Tb) (L : Nat) : TS3 :=
  sSeq (sIf (tBv (eBin fEq (eBin fIx (eVar 0) (eLit (.int 2))) (eLit (.int 0)))) (sSeq (sAsg (eBin fMod (eBin fIx (eVar 0) (eLit (.int 0))) (eVar 1)) (gNm 2))
    (sSeq (sSub (eVar 0) (eLit (.int 0)) (eBin fDiv (eBin fIx (eVar 0) (eLit (.int 0))) (eVar 1)))
    (sRet (eVar 2)))) (sNil))
    (sSeq (sSub (eVar 0) (eLit (.int 1)) (eBin fAdd (eBin fMod (eBin fMul (eBin fIx (eVar 0) (eLit (.int 1))) (eBin fIx (eVar 0) (eLit (.int 1)))) (eLit (.int 2147483629))) (eLit (.int 3))))
    (sRet (eBin fMod (eBin fDiv (eBin fMod (eBin fMul (eBin fIx (eVar 0) (eLit (.int 1))) (eLit (.int 69621))) (eLit (.int 2147483563))) (eLit (.int 8))) (eVar 1))))
abbrev i_law_text : Nat := 184
def N_law_text : List Str := [(Str.ofString "hand"), (Str.ofString "most"), (Str.ofString "some"), (Str.ofString "text"), (Str.ofString "k")]
def t_law_text (T : Tb) (L : Nat) : TS3 :=
  sSeq (sAsg (eLit (.str (Str.ofString "abcdefghijklmnopqrstuvwxyz ABCDEFGHIJKLMNOPQRSTUVWXYZ0123456789!\"#$&()*+,-./:<=>?\x40[\\]^_`{|}~"))) (gNm 2))
    (sSeq (sAsg (eLit (.str (Str.ofString ""))) (gNm 3))
    (sSeq (sFor (iR1 (aCons (eCall T L 183 (aCons (eVar 0) (aCons (eBin fAdd (eVar 1) (eLit (.int 1))) (aNil)))) (aNil))) (gNm 4) (sAsg (eBin fAdd (eVar 3) (eBin fIx (eVar 2) (eCall T L 183 (aCons (eVar 0) (aCons (eCB fLen (aCons (eVar 2) (aNil))) (aNil)))))) (gNm 3)))
    (sRet (eVar 3))))
abbrev i_law_value : Nat := 191
def N_law_value : List Str := [(Str.ofString "hand"), (Str.ofString "kind")]
def t_law_value (T : Tb) (L : Nat) : TS3 :=
  sSeq (sAsg (eCall T L 183 (aCons (eVar 0) (aCons (eLit (.int 5)) (aNil)))) (gNm 1))
    (sSeq (sIf (tBv (eBin fEq (eVar 1) (eLit (.int 0)))) (sRet (eBin fSub (eCall T L 183 (aCons (eVar 0) (aCons (eBin fAdd (eBin fMul (eLit (.int 2)) (eBin fPow (eLit (.int 10)) (eLit (.int 12)))) (eLit (.int 1))) (aNil)))) (eBin fPow (eLit (.int 10)) (eLit (.int 12))))) (sNil))
    (sSeq (sIf (tBv (eBin fEq (eVar 1) (eLit (.int 1)))) (sRet (eCall T L 184 (aCons (eVar 0) (aCons (eBin fIx (eLst (aCons (eLit (.int 3)) (aCons (eLit (.int 20)) (aNil)))) (eCall T L 183 (aCons (eVar 0) (aCons (eLit (.int 2)) (aNil))))) (aNil))))) (sNil))
    (sSeq (sIf (tBv (eBin fEq (eVar 1) (eLit (.int 2)))) (sRet (eBin fIx (eLst (aCons (eLit (.str (Str.ofString ""))) (aCons (eLit (.str (Str.ofString "a"))) (aCons (eLit (.str (Str.ofString "b"))) (aCons (eLit (.str (Str.ofString "ab"))) (aCons (eLit (.str (Str.ofString " "))) (aCons (eLit (.str (Str.ofString "1"))) (aCons (eLit (.str (Str.ofString "-1"))) (aCons (eLit (.str (Str.ofString "~"))) (aNil)))))))))) (eCall T L 183 (aCons (eVar 0) (aCons (eLit (.int 8)) (aNil)))))) (sNil))
    (sRet (eBin fIx (eLst (aCons (eLit (.int 0)) (aCons (eLit (.int 1)) (aCons (eLit (.int 2)) (aCons (eLit (.int 3)) (aCons (eNeg (eLit (.int 1))) (aCons (eNeg (eLit (.int 2))) (aCons (eBin fPow (eLit (.int 10)) (eLit (.int 12))) (aCons (eBin fSub (eLit (.int 0)) (eBin fPow (eLit (.int 10)) (eLit (.int 12)))) (aNil)))))))))) (eCall T L 183 (aCons (eVar 0) (aCons (eLit (.int 8)) (aNil)))))))))
abbrev i_law_refused : Nat := 187
def N_law_refused : List Str := [(Str.ofString "caught")]
def t_law_refused (T : Tb) (L : Nat) : TS3 :=
  sSeq (sIf (tTru (eIsE (eVar 0) ["BadThing", "Clash", "NoColumn", "NoName", "NoPaper", "NoPlan", "NoRow", "NoState", "NoStep", "NoTable", "NotSo"])) (sRet (eLit (.bl false))) (sNil))
    (sRet (eAnd (eIsE (eVar 0) ["NoQuestion"]) (eIsE (eVar 0) ["ValueError"])))
abbrev i_law_parted : Nat := 185
def N_law_parted : List Str := [(Str.ofString "text"), (Str.ofString "words"), (Str.ofString "waiting"), (Str.ofString "piece"), (Str.ofString "word"), (Str.ofString "quotes")]
def t_law_parted (T : Tb) (L : Nat) : TS3 :=
  sSeq (sAsg (eLst (aNil)) (gNm 1))
    (sSeq (sAsg (eLit (.bl false)) (gNm 2))
    (sSeq (sFor (iSq (eMt "str" fSplit (eVar 0) (aCons (eLit (.str (Str.ofString " "))) (aNil)))) (gNm 3) (sSeqJ (sIf (tTru (eVar 2)) (sSub (eVar 1) (eNeg (eLit (.int 1))) (eBin fAdd (eBin fAdd (eBin fIx (eVar 1) (eNeg (eLit (.int 1)))) (eLit (.str (Str.ofString " ")))) (eVar 3))) (sExp (eMt "list" fAppend (eVar 1) (aCons (eVar 3) (aNil)))))
    (sAsg (eAnd (eBin fEq (eSl (eBin fIx (eVar 1) (eNeg (eLit (.int 1)))) (oNone) (oSome (eLit (.int 1)))) (eLit (.str (Str.ofString "'")))) (eOr (eBin fEq (eCB fLen (aCons (eBin fIx (eVar 1) (eNeg (eLit (.int 1)))) (aNil))) (eLit (.int 1))) (eBin fNe (eBin fIx (eBin fIx (eVar 1) (eNeg (eLit (.int 1)))) (eNeg (eLit (.int 1)))) (eLit (.str (Str.ofString "'")))))) (gNm 2))))
    (sSeq (sFor (iSq (eVar 1)) (gNm 4) (sSeq (sAsg (eMt "str" fCntS (eVar 4) (aCons (eLit (.str (Str.ofString "'"))) (aNil))) (gNm 5))
    (sIf (tOr3 (tBv (eBin fEq (eVar 4) (eLit (.str (Str.ofString ""))))) (tAnd3 (tBv (eBin fNe (eVar 5) (eLit (.int 0)))) (tOr3 (tBv (eBin fNe (eVar 5) (eLit (.int 2)))) (tOr3 (tBv (eBin fNe (eBin fIx (eVar 4) (eLit (.int 0))) (eLit (.str (Str.ofString "'"))))) (tBv (eBin fNe (eBin fIx (eVar 4) (eNeg (eLit (.int 1)))) (eLit (.str (Str.ofString "'"))))))))) (sRet (eLit .non)) (sNil))))
    (sRet (eVar 1)))))
abbrev i_law_worth : Nat := 188
def N_law_worth : List Str := [(Str.ofString "word"), (Str.ofString "text"), (Str.ofString "bad"), (Str.ofString "figures"), (Str.ofString "sign")]
def t_law_worth (T : Tb) (L : Nat) : TS3 :=
  sSeq (sIf (tAnd3 (tBv (eBin fGt (eCB fLen (aCons (eVar 0) (aNil))) (eLit (.int 1)))) (tAnd3 (tBv (eBin fEq (eBin fIx (eVar 0) (eLit (.int 0))) (eLit (.str (Str.ofString "'"))))) (tBv (eBin fEq (eBin fIx (eVar 0) (eNeg (eLit (.int 1)))) (eLit (.str (Str.ofString "'"))))))) (sSeq (sAsg (eSl (eVar 0) (oSome (eLit (.int 1))) (oSome (eNeg (eLit (.int 1))))) (gNm 1))
    (sSeq (sAsg (eLc (iSq (eVar 1)) 4 (tOr3 (tBv (eBin fLt (eVar 4) (eLit (.str (Str.ofString " "))))) (tOr3 (tBv (eBin fGtS (eVar 4) (eLit (.str (Str.ofString "~"))))) (tOr3 (tBv (eBin (fIn false) (eVar 4) (eLit (.str (Str.ofString "';"))))) (tBv (eChain (fun i j => decide (i < j)) (fun i j => decide (i < j)) (eLit (.int 36)) (eCB fOrd (aCons (eVar 4) (aNil))) (eLit (.int 38))))))) (eVar 4)) (gNm 2))
    (sRet (eBin fIx (eLst (aCons (eLst (aCons (eVar 1) (aNil))) (aCons (eLst (aNil)) (aNil)))) (eCB fInt (aCons (eOr (eBin fGt (eCB fLen (aCons (eVar 1) (aNil))) (eLit (.int 20))) (eBin fNe (eVar 2) (eLst (aNil)))) (aNil))))))) (sNil))
    (sSeq (sAsg (eSl (eVar 0) (oSome (eCB fInt (aCons (eBin fEq (eBin fIx (eVar 0) (eLit (.int 0))) (eLit (.str (Str.ofString "-")))) (aNil)))) (oNone)) (gNm 3))
    (sSeq (sIf (tOr3 (tBv (eBin fEq (eVar 3) (eLit (.str (Str.ofString ""))))) (tBv (eBin fNe (eLc (iSq (eVar 3)) 4 (tBv (eBin (fIn true) (eVar 4) (eLit (.str (Str.ofString "0123456789"))))) (eVar 4)) (eLst (aNil))))) (sRet (eLst (aNil))) (sNil))
    (sSeq (sIf (tOr3 (tAnd3 (tBv (eBin fEq (eBin fIx (eVar 3) (eLit (.int 0))) (eLit (.str (Str.ofString "0"))))) (tBv (eBin fNe (eVar 0) (eLit (.str (Str.ofString "0")))))) (tOr3 (tBv (eBin fGt (eCB fLen (aCons (eVar 3) (aNil))) (eLit (.int 13)))) (tBv (eBin fGt (eCB fInt (aCons (eVar 3) (aNil))) (eBin fPow (eLit (.int 10)) (eLit (.int 12))))))) (sRet (eLst (aNil))) (sNil))
    (sRet (eLst (aCons (eCB fInt (aCons (eVar 0) (aNil))) (aNil)))))))
abbrev i_law_words_right : Nat := 192
def N_law_words_right : List Str := [(Str.ofString "thing"), (Str.ofString "due"), (Str.ofString "caught"), (Str.ofString "got"), (Str.ofString "e")]
def t_law_words_right (T : Tb) (L : Nat) : TS3 :=
  sSeq (sAsg (eCall T L 185 (aCons (eVar 0) (aNil))) (gNm 1))
    (sSeq (sAsg (eLit .non) (gNm 2))
    (sSeq (sAsg (eLit .non) (gNm 3))
    (sSeqJ (sTry (sAsg (eCall T L 186 (aCons (eVar 0) (aNil))) (gNm 3)) (("VaultError", some 4, sAsg (eVar 4) (gNm 2)) :: []))
    (sSeq (sIf (tBv (eBin (fIs false) (eVar 1) (eLit .non))) (sRet (eCall T L 187 (aCons (eVar 2) (aNil)))) (sNil))
    (sSeq (sIf (tOr3 (tNot3 (tTru (eCB fIsi (aCons (eVar 3) (aCons (eLit (.ty "list")) (aNil)))))) (tBv (eBin fNe (eVar 3) (eVar 1)))) (sRet (eLit (.bl false))) (sNil))
    (sSeq (sExp (eMt "list" fAppend (eVar 3) (aCons (eLit (.str (Str.ofString "a"))) (aNil))))
    (sRet (eBin fEq (eCall T L 186 (aCons (eVar 0) (aNil))) (eVar 1)))))))))
abbrev i_law_value_right : Nat := 193
def N_law_value_right : List Str := [(Str.ofString "word"), (Str.ofString "due"), (Str.ofString "caught"), (Str.ofString "got"), (Str.ofString "e")]
def t_law_value_right (T : Tb) (L : Nat) : TS3 :=
  sSeq (sAsg (eCall T L 188 (aCons (eVar 0) (aNil))) (gNm 1))
    (sSeq (sAsg (eLit .non) (gNm 2))
    (sSeq (sAsg (eLit .non) (gNm 3))
    (sSeqJ (sTry (sAsg (eCall T L 189 (aCons (eVar 0) (aNil))) (gNm 3)) (("VaultError", some 4, sAsg (eVar 4) (gNm 2)) :: []))
    (sSeq (sIf (tBv (eBin fEq (eVar 1) (eLst (aNil)))) (sRet (eCall T L 187 (aCons (eVar 2) (aNil)))) (sNil))
    (sSeq (sIf (tOr3 (tBv (eBin (fIs true) (eVar 2) (eLit .non))) (tOr3 (tTru (eCB fIsi (aCons (eVar 3) (aCons (eLit (.ty "bool")) (aNil))))) (tBv (eBin fNe (eCB fIsi (aCons (eVar 3) (aCons (eLit (.ty "str")) (aNil)))) (eCB fIsi (aCons (eBin fIx (eVar 1) (eLit (.int 0))) (aCons (eLit (.ty "str")) (aNil)))))))) (sRet (eLit (.bl false))) (sNil))
    (sRet (eBin fEq (eVar 3) (eBin fIx (eVar 1) (eLit (.int 0))))))))))
abbrev i_law_piece : Nat := 194
def N_law_piece : List Str := [(Str.ofString "hand"), (Str.ofString "kind")]
def t_law_piece (T : Tb) (L : Nat) : TS3 :=
  sSeq (sAsg (eCall T L 183 (aCons (eVar 0) (aCons (eLit (.int 8)) (aNil)))) (gNm 1))
    (sSeq (sIf (tBv (eBin fLt (eVar 1) (eLit (.int 3)))) (sRet (eBin fIx (eLst (aCons (eLit (.str (Str.ofString "show"))) (aCons (eLit (.str (Str.ofString "a.b"))) (aCons (eLit (.str (Str.ofString "of"))) (aCons (eLit (.str (Str.ofString "="))) (aCons (eLit (.str (Str.ofString "-1"))) (aCons (eLit (.str (Str.ofString "("))) (aCons (eLit (.str (Str.ofString "where"))) (aCons (eLit (.str (Str.ofString "x"))) (aNil)))))))))) (eCall T L 183 (aCons (eVar 0) (aCons (eLit (.int 8)) (aNil)))))) (sNil))
    (sSeq (sIf (tBv (eBin fLt (eVar 1) (eLit (.int 6)))) (sRet (eBin fAdd (eBin fAdd (eLit (.str (Str.ofString "'"))) (eCall T L 184 (aCons (eVar 0) (aCons (eLit (.int 6)) (aNil))))) (eLit (.str (Str.ofString "'"))))) (sNil))
    (sRet (eBin fIx (eLst (aCons (eLit (.str (Str.ofString "'"))) (aCons (eLit (.str (Str.ofString ""))) (aCons (eLit (.str (Str.ofString "a'"))) (aCons (eLit (.str (Str.ofString "'a"))) (aCons (eLit (.str (Str.ofString "''"))) (aCons (eLit (.str (Str.ofString "a'b"))) (aCons (eLit (.str (Str.ofString "'a'b"))) (aCons (eLit (.str (Str.ofString " "))) (aNil)))))))))) (eCall T L 183 (aCons (eVar 0) (aCons (eLit (.int 8)) (aNil))))))))
abbrev i_law : Nat := 384
def N_law : List Str := [(Str.ofString "script"), (Str.ofString "k"), (Str.ofString "cell"), (Str.ofString "hand"), (Str.ofString "pieces"), (Str.ofString "signs"), (Str.ofString "word"), (Str.ofString "value"), (Str.ofString "told"), (Str.ofString "number"), (Str.ofString "quoted"), (Str.ofString "one"), (Str.ofString "thing"), (Str.ofString "j")]
def t_law (T : Tb) (L : Nat) : TS3 :=
  sSeq (sFor (iEn (aCons (eSl (eVar 0) (oNone) (oSome (eLit (.int 63)))) (aNil))) (gTp 2 (gs1 (gNm 1) (gs1 (gNm 2) (gs0)))) (sSeq (sAsg (eCall T L 190 (aCons (eVar 0) (aCons (eVar 2) (aCons (eVar 1) (aNil))))) (gNm 3))
    (sSeq (sAsg (eLc (iR1 (aCons (eCall T L 183 (aCons (eVar 3) (aCons (eLit (.int 9)) (aNil)))) (aNil))) 13 (tYes3) (eCall T L 194 (aCons (eVar 3) (aNil)))) (gNm 4))
    (sSeq (sAsg (eMt "str" fJoin (eLit (.str (Str.ofString ""))) (aCons (eLc (iR1 (aCons (eCall T L 183 (aCons (eVar 3) (aCons (eLit (.int 12)) (aNil)))) (aNil))) 13 (tYes3) (eBin fIx (eLit (.str (Str.ofString "''  ab.1(;"))) (eCall T L 183 (aCons (eVar 3) (aCons (eLit (.int 10)) (aNil)))))) (aNil))) (gNm 5))
    (sSeq (sIf (tOr3 (tNot3 (tTru (eCall T L 192 (aCons (eMt "str" fJoin (eLit (.str (Str.ofString " "))) (aCons (eVar 4) (aNil))) (aNil))))) (tNot3 (tTru (eCall T L 192 (aCons (eVar 5) (aNil)))))) (sRet (eLit (.bl false))) (sNil))
    (sSeq (sAsg (eMt "str" fJoin (eLit (.str (Str.ofString ""))) (aCons (eLc (iR1 (aCons (eBin fAdd (eLit (.int 1)) (eCall T L 183 (aCons (eVar 3) (aCons (eLit (.int 16)) (aNil))))) (aNil))) 13 (tYes3) (eBin fIx (eLit (.str (Str.ofString "0123456789-'a0"))) (eCall T L 183 (aCons (eVar 3) (aCons (eLit (.int 14)) (aNil)))))) (aNil))) (gNm 6))
    (sSeq (sAsg (eCall T L 191 (aCons (eVar 3) (aNil))) (gNm 7))
    (sSeq (sAsg (eCB fStrX (aCons (eVar 7) (aNil))) (gNm 8))
    (sSeqJ (sIf (tTru (eCB fIsi (aCons (eVar 7) (aCons (eLit (.ty "str")) (aNil))))) (sAsg (eBin fAdd (eBin fAdd (eLit (.str (Str.ofString "'"))) (eVar 7)) (eLit (.str (Str.ofString "'")))) (gNm 8)) (sNil))
    (sSeq (sAsg (eCB fStrX (aCons (eBin fMul (eBin fIx (eLst (aCons (eLit (.int 1)) (aCons (eNeg (eLit (.int 1))) (aNil)))) (eCall T L 183 (aCons (eVar 3) (aCons (eLit (.int 2)) (aNil))))) (eBin fAdd (eBin fSub (eBin fPow (eLit (.int 10)) (eLit (.int 12))) (eLit (.int 2))) (eCall T L 183 (aCons (eVar 3) (aCons (eLit (.int 5)) (aNil)))))) (aNil))) (gNm 9))
    (sSeq (sAsg (eBin fAdd (eBin fAdd (eBin fAdd (eLit (.str (Str.ofString "'"))) (eCall T L 184 (aCons (eVar 3) (aCons (eLit (.int 22)) (aNil))))) (eBin fIx (eLst (aCons (eLit (.str (Str.ofString ""))) (aCons (eLit (.str (Str.ofString ""))) (aCons (eLit (.str (Str.ofString ";"))) (aCons (eLit (.str (Str.ofString "\n"))) (aNil)))))) (eCall T L 183 (aCons (eVar 3) (aCons (eLit (.int 4)) (aNil)))))) (eLit (.str (Str.ofString "'")))) (gNm 10))
    (sFor (iSq (eLst (aCons (eVar 6) (aCons (eVar 8) (aCons (eVar 9) (aCons (eBin fAdd (eLit (.str (Str.ofString "0"))) (eVar 9)) (aCons (eLit (.str (Str.ofString "-0"))) (aCons (eBin fAdd (eLit (.str (Str.ofString "'"))) (eVar 6)) (aCons (eVar 10) (aNil)))))))))) (gNm 11) (sIf (tNot3 (tTru (eCall T L 193 (aCons (eVar 11) (aNil))))) (sRet (eLit (.bl false))) (sNil))))))))))))))
    (sSeq (sFor (iSq (eLst (aCons (eLit (.str (Str.ofString ""))) (aCons (eLit (.str (Str.ofString " "))) (aCons (eLit (.str (Str.ofString "a"))) (aCons (eLit (.str (Str.ofString "'"))) (aCons (eLit (.str (Str.ofString "''"))) (aCons (eLit (.str (Str.ofString "' '"))) (aCons (eLit (.str (Str.ofString "'a' 'b'"))) (aCons (eLit (.str (Str.ofString "'a''b'"))) (aCons (eLit (.str (Str.ofString "a 'b c' d"))) (aCons (eLit (.str (Str.ofString "a 'b c'd"))) (aNil))))))))))))) (gNm 12) (sIf (tNot3 (tTru (eCall T L 192 (aCons (eVar 12) (aNil))))) (sRet (eLit (.bl false))) (sNil)))
    (sRet (eLit (.bl true))))
/-! the steps as tactics -/
local macro_rules | `(tactic| walk_at "ne") => `(tactic| first | assumption | exact Ne.symm (by assumption) | (refine ne_none' (o := ?o1) (by assumption) ?h1; case h1 => walk_at "hp") | (refine Ne.symm (ne_none' (o := ?o1) (by assumption) ?h1); case h1 => walk_at "hp"))
local macro_rules | `(tactic| walk_at "hp") => `(tactic| first | assumption | exact mset_same | (refine (mset_ne (by walk_at "ne")).trans ?_; walk_at "hp") | (refine Fr.at (by assumption) (by walk_at "ni") ?_; walk_at "hp"))
local macro_rules | `(tactic| walk_at "ni") => `(tactic| first | exact ni_nil | (refine ni_cons ?_ ?_; (walk_at "ne"); (walk_at "ni")) | assumption)
local macro_rules | `(tactic| walk_at "mm") => `(tactic| first | exact in_h | (refine in_t ?_; walk_at "mm") | assumption)
local macro_rules | `(tactic| walk_at "in") => `(tactic| first | (refine Or.inl ?_; walk_at "mm") | assumption | (refine Fr.gone ?g (by assumption); case g => walk_at "fr") | exact Or.inr (by assumption))
local macro_rules | `(tactic| walk_at "is") => `(tactic| first | exact Ins.nil | (refine Ins.cons ?_ ?_; (walk_at "in"); (walk_at "is")))
local macro_rules | `(tactic| walk_at "fr") => `(tactic| first | assumption | exact Fr.refl _ _ | (refine Fr.new ?_ (by assumption); walk_at "fr") | (refine Fr.set ?_ (by walk_at "in"); walk_at "fr") | (refine Fr.sub (by assumption) (by walk_at "is") ?_; walk_at "fr"))
local macro_rules | `(tactic| walk_at "rl") => `(tactic| first | assumption | (refine RL.new ?_ (by assumption); walk_at "rl") | (refine RL.of ?_; walk_at "hp") | (refine Or.inr (Or.inl ?_); walk_at "hp"))
local macro_rules | `(tactic| walk_at "sd") => `(tactic| first | exact True.intro | assumption | omega | (show (0:Int) < _; omega) | exact ⟨by omega, by omega⟩ | exact cdivw (by omega) (by omega) | exact cmulw ⟨by omega, by omega⟩ ⟨by omega, by omega⟩ | decide | (dsimp only [List.length_cons, List.length_nil]; omega) | (simp only [List.length_cons, List.length_nil, List.length_append, List.length_map]; omega))
local macro_rules | `(tactic| walk_at "ki") => `(tactic| first | exact kit_t (by decide) | exact kit_f (by decide))
local macro_rules | `(tactic| walk_at "ty") => `(tactic| first | exact TyD.non | exact TyD.bl _ | exact TyD.int _ | exact TyD.str _ | exact TyD.tup _ | exact TyD.lst (by walk_at "rl") | exact TyD.dK (by walk_at "hp") | exact TyD.dT (by walk_at "hp"))
local macro_rules | `(tactic| walk_at "x1") => `(tactic| with_reducible first
  | refine x_seq ?_ | refine x_asg ?_ | refine x_par ?_ | refine x_par2 ?_ | refine x_gnm ?_ | refine x_if ?_ | refine x_ret ?_ | refine x_exp ?_ | refine x_nil ?_ | refine x_retN ?_ | refine x_sub ?_ | refine x_brk ?_ | refine x_cnt ?_
  | refine x_lit ?_ | refine x_bin ?_ | refine x_neg ?_ | refine x_negI ?_ | refine x_anil ?_ | refine x_acons ?_ | refine x_tup ?_ | refine x_lst ?_ | refine x_cb ?_ | refine x_ecall ?_ | refine x_mt ?_ | refine x_mt0 ?_
  | refine x_and ?_ | refine x_or ?_ | refine x_not ?_ | refine x_ife ?_ | refine x_exb ?_ | refine x_chain ?_ | refine x_ch1 ?_ | refine x_ch2 ?_ | refine x_tbv ?_ | refine x_ttru ?_ | refine x_trB ?_ | refine x_trI ?_ | refine x_trT ?_
  | refine x_go ?_ | refine x_gr ?_ | refine x_ist ?_ | refine x_irv ?_ | refine x_ien ?_ | refine x_rev ?_
  | refine x_lc ?_ | refine x_gs1 ?_ | refine x_gs0 ?_ | refine x_dic ?_ | refine x_fld ?_ | refine x_fldS ?_ | refine x_meth ?_ | refine x_make ?_ | refine x_try ?_ | refine x_ise ?_
  | refine x_tand ?_ | refine x_tor ?_ | refine x_tnot ?_ | refine x_yes ?_ | refine x_sl ?_ | refine x_on ?_ | refine x_os ?_ | refine x_for ?_ | refine x_isq ?_ | refine x_itT ?_ | refine x_itS ?_ | refine x_ir1 ?_ | refine x_ir3 ?_ | refine x_izp ?_
  | refine xf_addI ?_ | refine xf_ltI ?_ | refine xf_ltS ?_ | refine xf_eqI ?_ | refine xf_neI ?_ | refine xf_eqS ?_ | refine xf_neS ?_ | refine xf_eqB ?_ | refine xf_slT ?_ | refine xf_lenT ?_ | refine xf_ord ?_ | refine xf_abs ?_ | refine xf_max2 ?_ | refine xf_min2 ?_
  | refine xf_pow6 ?_ | refine xf_pow15 ?_ | refine xf_pow30 ?_ | refine xf_intI ?_ | refine xf_intB ?_ | refine xf_tupT ?_ | refine xf_lstT ?_ | refine x_tyS ?_)
local macro_rules | `(tactic| walk_at "x2") => `(tactic| first
  | ((with_reducible refine x_var (d := ?_) ?h0 ?_); case h0 => rfl)
  | ((with_reducible refine x_ir1' ?h0 ?_); case h0 => walk_at "sd")
  | ((with_reducible refine x_aug (u := ?_) ?h0 ?_); case h0 => rfl)
  | ((with_reducible refine x_sz ?h0 ?_); case h0 => walk_at "sd")
  | ((with_reducible refine xf_I ?h0 ?_); case h0 => walk_at "sd")
  | ((with_reducible refine xf_mulI ?h0 ?_); case h0 => walk_at "sd")
  | ((with_reducible refine xf_is0 (b := ?_) ?h0 ?_); case h0 => rfl)
  | ((with_reducible refine xf_is1 (b := ?_) ?h0 ?_); case h0 => rfl)
  | ((with_reducible refine xf_isiT (n := ?_) ?h0 ?h1 ?_); (case h0 => walk_at "ty"); (case h1 => decide))
  | ((with_reducible refine xf_isiF (n := ?_) ?h0 ?h1 ?_); (case h0 => walk_at "ty"); (case h1 => decide))
  | ((with_reducible refine xf_ixL (l := ?_) (d := ?_) ?h0 ?h1 ?_); (case h0 => walk_at "rl"); (case h1 => rfl))
  | ((with_reducible refine xf_ixT (d := ?_) ?h0 ?_); (case h0 => rfl))
  | ((with_reducible refine xf_set (l := ?_) (j := ?_) ?h0 ?h1 ?_); (case h0 => walk_at "hp"); (case h1 => rfl))
  | ((with_reducible refine xf_app (l := ?_) ?h0 ?h1 ?_); (case h0 => walk_at "hp"); (case h1 => walk_at "sd"))
  | ((with_reducible refine x_tyL (l := ?_) ?h0 ?_); (case h0 => walk_at "rl"))
  | ((with_reducible refine x_tyK (kvs := ?_) ?h0 ?_); (case h0 => walk_at "hp"))
  | ((with_reducible refine xf_fld (C := ?_) (fs := ?_) (v := ?_) ?h0 ?h1 ?_); (case h0 => walk_at "hp"); (case h1 => first | assumption | rfl))
  | ((with_reducible refine xf_fldS (C := ?_) (fs := ?_) ?h0 ?h1 ?_); (case h0 => walk_at "hp"); (case h1 => first | decide | (simp only [List.length_cons, List.length_nil]; omega) | exact Nat.lt_of_lt_of_le (show _ < 10 from by simp) (by decide)))
  | ((with_reducible refine xf_meth (C := ?_) (fs := ?_) (i := ?_) ?h0 ?h1 ?h2 ?_); (case h0 => walk_at "hp"); (case h1 => first | assumption | rfl); (case h2 => first | assumption | rfl))
  | ((with_reducible refine xf_clear (l := ?_) ?h0 ?_); (case h0 => walk_at "hp"))
  | ((with_reducible refine xf_lenL (l := ?_) ?h0 ?_); (case h0 => walk_at "rl"))
  | ((with_reducible refine xf_tupL (l := ?_) ?h0 ?_); (case h0 => walk_at "rl"))
  | ((with_reducible refine x_gtp ?h0 ?_); case h0 => rfl)
  | ((with_reducible refine x_gls (l := ?_) ?h0 ?h1 ?_); (case h0 => walk_at "rl"); (case h1 => rfl))
  | ((with_reducible refine x_trL (l := ?_) ?h0 ?_); (case h0 => walk_at "rl"))
  | ((with_reducible refine x_itL (l := ?_) ?h0 ?_); (case h0 => walk_at "rl"))
  | ((with_reducible refine x_irL (l := ?_) ?h0 ?_); (case h0 => walk_at "rl"))
  | ((with_reducible refine x_ieL (l := ?_) ?h0 ?_); (case h0 => walk_at "rl"))
  | ((with_reducible refine xf_istT (t := ?_) ?h0 ?h1 ?_); (case h0 => walk_at "ty"); (case h1 => decide +kernel))
  | ((with_reducible refine xf_istF (t := ?_) ?h0 ?h1 ?_); (case h0 => walk_at "ty"); (case h1 => decide +kernel))
  | ((with_reducible refine xf_slL (l := ?_) ?h0 ?_); (case h0 => walk_at "rl"))
  | ((with_reducible refine x_itg ?_); first | refine x_iT ?_ | refine x_iF ?_)
  | (with_reducible intro _ _))
local macro_rules | `(tactic| walk_at "x") => `(tactic| repeat (first | walk_at "x1" | walk_at "x2"))
local macro_rules | `(tactic| walk_at "ix") => `(tactic| (refine fx_M (l := ?_) ?h1 ?h2 ?h3 ?h4; (case h1 => walk_at "rl"); (case h2 => assumption); (case h3 => first | assumption | walk_at "sd")))
local macro_rules | `(tactic| walk_at "nm") => `(tactic| first | assumption | decide | omega)
local macro_rules | `(tactic| walk_at "gn") => `(tactic| (refine (Fr.gone ?_ (by assumption)).resolve_left ni_nil; walk_at "fr"))

/-! k65: words, in plain lists of signs -/
-- uses PvLm
-- uses PvLn
abbrev Sg := List Nat
/-- the program's walk: the words done, the one under way, whether quoted, whether closed -/
structure Wk where
  done : List Sg
  cur : Sg
  q : Bool
  cl : Bool
def stepK (s : Wk) (c : Nat) : Option Wk :=
  if c = 32 ∧ s.q = false then some ⟨s.done ++ [s.cur], [], false, false⟩
  else if s.cl = true ∨ (c = 39 ∧ s.q = false ∧ s.cur ≠ []) then none
  else if c = 39 then some ⟨s.done, s.cur ++ [c], !s.q, s.q⟩ else some ⟨s.done, s.cur ++ [c], s.q, s.cl⟩
def runK : Wk → Sg → Option Wk
  | s, [] => some s
  | s, c :: l => (stepK s c).bind fun s' => runK s' l
def endK (s : Wk) : Option (List Sg) := if s.q = true ∨ [] ∈ s.done ++ [s.cur] then none else some (s.done ++ [s.cur])
def wordsK (l : Sg) : Option (List Sg) := (runK ⟨[], [], false, false⟩ l).bind endK
theorem runK_app {b : Sg} : ∀ {a : Sg} {s : Wk}, runK s (a ++ b) = (runK s a).bind fun s' => runK s' b
  | [], s => rfl
  | c :: a, s => by
    show (stepK s c).bind (fun s' => runK s' (a ++ b)) = ((stepK s c).bind fun s' => runK s' a).bind fun s' => runK s' b
    cases stepK s c with
    | none => rfl
    | some s' => exact runK_app
/-- the law's parts: the last word waits for more -/
def isW (w : Sg) : Bool := (w.take 1 == [39]) && (w.length == 1 || w.getLast? != some 39)
def stepP (r : List Sg × Sg) (p : Sg) : List Sg × Sg := if isW r.2 then (r.1, r.2 ++ 32 :: p) else (r.1 ++ [r.2], p)
def goodW (w : Sg) : Prop := w ≠ [] ∧ (w.count 39 = 0 ∨ (w.count 39 = 2 ∧ w.head? = some 39 ∧ w.getLast? = some 39))
instance {w : Sg} : Decidable (goodW w) := by unfold goodW; exact inferInstance
def endP (ws : List Sg) : Option (List Sg) := if ∀ w ∈ ws, goodW w then some ws else none
def partsK (r : List Sg × Sg) (ps : List Sg) : List Sg := (ps.foldl stepP r).1 ++ [(ps.foldl stepP r).2]
/-! shapes of a word under way -/
inductive Sh : Sg → Bool → Bool → Prop
  | plain {w : Sg} (h : 39 ∉ w) : Sh w false false
  | opn {r : Sg} (h : 39 ∉ r) : Sh (39 :: r) true false
  | cls {r : Sg} (h : 39 ∉ r) : Sh (39 :: r ++ [39]) false true
def Bad (w : Sg) : Prop := ∀ s, ¬ goodW (w ++ s)
theorem last_app {c : Nat} {s : Sg} : ∀ {a : Sg}, (a ++ c :: s).getLast? = (c :: s).getLast?
  | [] => rfl
  | [x] => List.getLast?_cons_cons
  | x :: y :: a => by
    show (x :: y :: (a ++ c :: s)).getLast? = _
    rw [List.getLast?_cons_cons]
    exact last_app (a := y :: a)
theorem Bad.app {w s : Sg} (h : Bad w) : Bad (w ++ s) := fun t => by rw [List.append_assoc]; exact h _
theorem cnt0 {w : Sg} : w.count 39 = 0 ↔ 39 ∉ w := List.count_eq_zero
theorem bad_plain {w : Sg} (h : 39 ∉ w) (hw : w ≠ []) : Bad (w ++ [39]) := fun s ⟨_, g⟩ => by
  cases w with
  | nil => exact hw rfl
  | cons a w =>
    rcases g with g | ⟨_, g, _⟩
    · rw [cnt0] at g
      exact g (by simp)
    · simp at g
      exact h (by rw [g]; exact List.mem_cons_self)
theorem bad_cls {r : Sg} {c : Nat} (h : 39 ∉ r) : Bad ((39 :: r ++ [39]) ++ [c]) := fun s ⟨_, g⟩ => by
  have h0 := cnt0.mpr h
  rcases g with g | ⟨g, _, gl⟩
  · rw [cnt0] at g
    exact g (by simp)
  · have e : ((39 :: r ++ [39]) ++ [c] ++ s).count 39 = 2 + ([c].count 39 + s.count 39) := by
      simp only [List.count_append, List.count_cons, List.count_nil, h0]
      simp
      omega
    rw [e] at g
    have g1 : (c :: s).count 39 = 0 := by
      have : (c :: s).count 39 = [c].count 39 + s.count 39 := by rw [← List.count_append]; rfl
      omega
    rw [cnt0] at g1
    have e2 : ((39 :: r ++ [39]) ++ [c] ++ s) = (39 :: r ++ [39]) ++ (c :: s) := by simp
    rw [e2, last_app] at gl
    exact g1 (List.mem_of_getLast? gl)
theorem run_piece {d : List Sg} : ∀ {p : Sg} {w : Sg} {q cl : Bool}, Sh w q cl → 32 ∉ p → (∃ q' cl', runK ⟨d, w, q, cl⟩ p = some ⟨d, w ++ p, q', cl'⟩ ∧ Sh (w ++ p) q' cl') ∨ (runK ⟨d, w, q, cl⟩ p = none ∧ Bad (w ++ p))
  | [], w, q, cl, h, _ => .inl ⟨q, cl, by rw [List.append_nil]; rfl, by rw [List.append_nil]; exact h⟩
  | c :: p, w, q, cl, h, hp => by
    have hc : c ≠ 32 := fun e => hp (by rw [e]; exact List.mem_cons_self)
    have hp' : 32 ∉ p := fun e => hp (List.mem_cons_of_mem _ e)
    have e : w ++ c :: p = (w ++ [c]) ++ p := by simp
    have go : ∀ (q' cl' : Bool), stepK ⟨d, w, q, cl⟩ c = some ⟨d, w ++ [c], q', cl'⟩ → Sh (w ++ [c]) q' cl' → (∃ q' cl', runK ⟨d, w, q, cl⟩ (c :: p) = some ⟨d, w ++ c :: p, q', cl'⟩ ∧ Sh (w ++ c :: p) q' cl') ∨ (runK ⟨d, w, q, cl⟩ (c :: p) = none ∧ Bad (w ++ c :: p)) := fun q' cl' e1 e2 => by
      have er : runK ⟨d, w, q, cl⟩ (c :: p) = runK ⟨d, w ++ [c], q', cl'⟩ p := by
        show (stepK _ c).bind _ = _
        rw [e1]; rfl
      rw [er, e]
      exact run_piece e2 hp'
    have no : stepK ⟨d, w, q, cl⟩ c = none → Bad (w ++ [c]) → (∃ q' cl', runK ⟨d, w, q, cl⟩ (c :: p) = some ⟨d, w ++ c :: p, q', cl'⟩ ∧ Sh (w ++ c :: p) q' cl') ∨ (runK ⟨d, w, q, cl⟩ (c :: p) = none ∧ Bad (w ++ c :: p)) := fun e1 e2 => by
      refine .inr ⟨?_, by rw [e]; exact e2.app⟩
      show (stepK _ c).bind _ = _
      rw [e1]; rfl
    cases h with
    | plain h =>
      by_cases h9 : c = 39
      · subst h9
        by_cases hw : w = []
        · subst hw
          exact go true false (by simp [stepK]) (.opn (r := []) (by simp))
        · exact no (by simp [stepK, hw]) (bad_plain h hw)
      · refine go false false (by simp [stepK, hc, h9]) (.plain ?_)
        simp only [List.mem_append, List.mem_singleton, not_or]
        exact ⟨h, fun z => h9 z.symm⟩
    | opn h =>
      rename_i r
      by_cases h9 : c = 39
      · subst h9
        exact go false true (by simp [stepK]) (.cls h)
      · refine go true false (by simp [stepK, h9]) (.opn (r := r ++ [c]) ?_)
        simp only [List.mem_append, List.mem_singleton, not_or]
        exact ⟨h, fun z => h9 z.symm⟩
    | cls h => exact no (by simp [stepK, hc]) (bad_cls h)
theorem Sh.isW {w : Sg} {q cl : Bool} (h : Sh w q cl) : isW w = q := by
  cases h with
  | plain h =>
    cases w with
    | nil => rfl
    | cons a w =>
      have : a ≠ 39 := fun e => h (by rw [e]; exact List.mem_cons_self)
      simp [PV.isW, this]
  | opn h =>
    rename_i r
    cases r with
    | nil => rfl
    | cons a r =>
      have : (39 :: a :: r).getLast? ≠ some 39 := fun e => by
        rw [List.getLast?_cons_cons] at e
        exact h (List.mem_of_getLast? e)
      unfold PV.isW
      rw [show ((39 :: a :: r).getLast? != some 39) = true from bne_iff_ne.mpr this]
      simp
  | cls h =>
    rename_i r
    have : (39 :: r ++ [39]).getLast? = some 39 := last_app (a := 39 :: r)
    simp only [PV.isW, this]
    simp
theorem Sh.good {w : Sg} {q cl : Bool} (h : Sh w q cl) : goodW w ↔ w ≠ [] ∧ q = false := by
  cases h with
  | plain h => exact ⟨fun g => ⟨g.1, rfl⟩, fun g => ⟨g.1, .inl (cnt0.mpr h)⟩⟩
  | opn h =>
    rename_i r
    have e : (39 :: r).count 39 = 1 := by rw [List.count_cons, cnt0.mpr h]; rfl
    refine ⟨fun ⟨_, g⟩ => ?_, fun ⟨_, g⟩ => nomatch g⟩
    rw [e] at g
    rcases g with g | ⟨g, _⟩ <;> cases g
  | cls h =>
    rename_i r
    refine ⟨fun g => ⟨g.1, rfl⟩, fun _ => ⟨List.cons_ne_nil _ _, .inr ⟨?_, rfl, last_app (a := 39 :: r)⟩⟩⟩
    rw [List.count_append, List.count_cons, cnt0.mpr h]; rfl
theorem fold_in {w : Sg} : ∀ {ps : List Sg} {r : List Sg × Sg}, w ∈ r.1 → w ∈ partsK r ps
  | [], r, h => List.mem_append_left _ h
  | p :: ps, r, h => by
    show w ∈ partsK (stepP r p) ps
    refine fold_in ?_
    unfold stepP
    split
    · exact h
    · exact List.mem_append_left _ h
theorem fold_bad : ∀ {ps : List Sg} {r : List Sg × Sg}, Bad r.2 → ∃ w ∈ partsK r ps, ¬ goodW w
  | [], r, h => ⟨r.2, List.mem_append_right _ List.mem_cons_self, by have := h []; rwa [List.append_nil] at this⟩
  | p :: ps, r, h => by
    show ∃ w ∈ partsK (stepP r p) ps, _
    unfold stepP
    split
    · exact fold_bad (r := (r.1, r.2 ++ 32 :: p)) h.app
    · exact ⟨r.2, fold_in (r := (r.1 ++ [r.2], p)) (List.mem_append_right _ List.mem_cons_self), by have := h []; rwa [List.append_nil] at this⟩
theorem endP_no {ws : List Sg} (h : ∃ w ∈ ws, ¬ goodW w) : endP ws = none := by
  obtain ⟨w, h1, h2⟩ := h
  unfold endP
  exact if_neg fun z => h2 (z w h1)
def blanks (ps : List Sg) : Sg := ps.flatMap (32 :: ·)
theorem blanks_c {p : Sg} {ps : List Sg} : blanks (p :: ps) = 32 :: p ++ blanks ps := rfl
theorem words_go : ∀ {ps : List Sg} {d : List Sg} {w : Sg} {q cl : Bool}, Sh w q cl → (∀ v ∈ d, v = [] ∨ goodW v) → (∀ p ∈ ps, 32 ∉ p) → (runK ⟨d, w, q, cl⟩ (blanks ps)).bind endK = endP (partsK (d, w) ps)
  | [], d, w, q, cl, h, hd, _ => by
    show endK ⟨d, w, q, cl⟩ = endP (d ++ [w])
    unfold endK endP
    dsimp only
    by_cases z : q = true ∨ [] ∈ d ++ [w]
    · rw [if_pos z, if_neg]
      intro g
      rcases z with z | z
      · have := (h.good.mp (g w (List.mem_append_right _ List.mem_cons_self))).2
        rw [z] at this; cases this
      · exact (g [] z).1 rfl
    · rw [if_neg z, if_pos]
      intro v hv
      have hv0 : v ≠ [] := fun e => z (.inr (by rw [← e]; exact hv))
      rcases List.mem_append.mp hv with hv | hv
      · exact (hd v hv).resolve_left hv0
      · rw [List.mem_singleton.mp hv] at hv0 ⊢
        exact h.good.mpr ⟨hv0, by cases q with
          | false => rfl
          | true => exact absurd (.inl rfl) z⟩
  | p :: ps, d, w, q, cl, h, hd, hp => by
    have hp1 := hp p List.mem_cons_self
    have hp2 : ∀ p ∈ ps, 32 ∉ p := fun p' h' => hp p' (List.mem_cons_of_mem _ h')
    rw [blanks_c, List.cons_append]
    have er : ∀ s', stepK ⟨d, w, q, cl⟩ 32 = some s' → (runK ⟨d, w, q, cl⟩ (32 :: (p ++ blanks ps))) = (runK s' p).bind fun s2 => runK s2 (blanks ps) := fun s' e => by
      show (stepK _ 32).bind _ = _
      rw [e]
      exact runK_app
    have hpk : partsK (d, w) (p :: ps) = partsK (stepP (d, w) p) ps := rfl
    cases q with
    | false =>
      have hst : stepP (d, w) p = (d ++ [w], p) := by
        unfold stepP
        rw [show PV.isW (d, w).2 = false from h.isW]
        rfl
      rw [er ⟨d ++ [w], [], false, false⟩ (by simp [stepK]), hpk, hst]
      rcases run_piece (d := d ++ [w]) (.plain (w := []) (by simp)) hp1 with ⟨q', cl', e1, e2⟩ | ⟨e1, e2⟩
      · rw [e1]
        rw [List.nil_append] at e2 ⊢
        refine words_go (d := d ++ [w]) e2 (fun v hv => ?_) hp2
        rcases List.mem_append.mp hv with hv | hv
        · exact hd v hv
        · rw [List.mem_singleton.mp hv]
          by_cases z : w = []
          · exact .inl z
          · exact .inr (h.good.mpr ⟨z, rfl⟩)
      · rw [e1]
        rw [List.nil_append] at e2
        exact (endP_no (fold_bad (r := (d ++ [w], p)) e2)).symm
    | true =>
      have hst : stepP (d, w) p = (d, w ++ 32 :: p) := by
        unfold stepP
        rw [show PV.isW (d, w).2 = true from h.isW]
        rfl
      cases h with
      | opn h =>
        rename_i r
        have e3 : (39 :: (r ++ [32])) ++ p = (39 :: r) ++ 32 :: p := by simp
        rw [er ⟨d, 39 :: (r ++ [32]), true, false⟩ (by simp [stepK]), hpk, hst]
        have sh : Sh (39 :: (r ++ [32])) true false := .opn (by
          simp only [List.mem_append, List.mem_singleton, not_or]
          exact ⟨h, by decide⟩)
        rcases run_piece (d := d) sh hp1 with ⟨q', cl', e1, e2⟩ | ⟨e1, e2⟩
        · rw [e1]
          rw [e3] at e2 ⊢
          exact words_go e2 hd hp2
        · rw [e1]
          rw [e3] at e2
          exact (endP_no (fold_bad (r := (d, (39 :: r) ++ 32 :: p)) e2)).symm
/-- the law: both ways of parting tell the same -/
theorem words_law {p : Sg} {ps : List Sg} (h : ∀ x ∈ p :: ps, 32 ∉ x) : wordsK (p ++ blanks ps) = endP (partsK ([], p) ps) := by
  unfold wordsK
  rw [runK_app]
  rcases run_piece (d := []) (.plain (w := []) (by simp)) (h p List.mem_cons_self) with ⟨q', cl', e1, e2⟩ | ⟨e1, e2⟩
  · rw [e1]
    rw [List.nil_append] at e2 ⊢
    exact words_go e2 (fun v hv => nomatch hv) (fun x hx => h x (List.mem_cons_of_mem _ hx))
  · rw [e1]
    rw [List.nil_append] at e2
    exact (endP_no (fold_bad (r := ([], p)) e2)).symm

/-! k65: texts by their signs -/
abbrev dS (w : Sg) : D := .str (SX.S w)
theorem tl_S {w : Sg} : (SX.S w).cps.toList = w := rfl
theorem S_of {z : Str} : SX.S z.cps.toList = z := SX.S_tl z
theorem S_eq {a b : Sg} : SX.S a = SX.S b ↔ a = b := ⟨SX.S_inj, fun h => by rw [h]⟩
theorem sg1 {c : Nat} : (⟨#[c]⟩ : Str) = SX.S [c] := rfl
theorem fx_eqW {a b : Sg} {m : Mp} {k : K3} (h : k (.bl (decide (a = b))) m) : fEq (dS a) (dS b) m k := xf_eqS (by
  rw [show decide (SX.S a = SX.S b) = decide (a = b) from decide_eq_decide.mpr S_eq]; exact h)
theorem fx_neW {a b : Sg} {m : Mp} {k : K3} (h : k (.bl (!decide (a = b))) m) : fNe (dS a) (dS b) m k := xf_neS (by
  rw [show decide (SX.S a = SX.S b) = decide (a = b) from decide_eq_decide.mpr S_eq]; exact h)
theorem fx_addW {a b : Sg} {m : Mp} {k : K3} (h0 : a.length + b.length ≤ 100000) (h : k (dS (a ++ b)) m) : fAdd (dS a) (dS b) m k := xf_addS' h0 (by rw [SX.S_cat]; exact h)
theorem fx_lenW {a : Sg} {m : Mp} {k : K3} (h0 : a.length ≤ 100000) (h : k (.int a.length) m) : fLen [dS a] m k := xf_lenS' h0 h
theorem atI_last {α : Type} {l : List α} {a : α} : atI (l ++ [a]) (-1) = some a := by
  have hn : ixN (l ++ [a]).length (-1) = some l.length := by
    unfold ixN
    rw [List.length_append, List.length_singleton, if_neg (by omega), if_pos (by omega)]
    congr 1
    omega
  unfold atI
  rw [hn]
  show (l ++ [a])[l.length]? = some a
  simp
theorem ixN_last {α : Type} {l : List α} {a : α} : ixN (l ++ [a]).length (-1) = some l.length := by
  unfold ixN
  rw [List.length_append, List.length_singleton, if_neg (by omega), if_pos (by omega)]
  congr 1
  omega
theorem set_last {α : Type} {l : List α} {a b : α} : (l ++ [a]).set l.length b = l ++ [b] := by
  rw [List.set_append]
  simp
theorem atI_lastG {w : Sg} {c : Nat} (h : w.getLast? = some c) : atI w (-1) = some c := by
  obtain ⟨l, rfl⟩ := List.getLast?_eq_some_iff.mp h
  exact atI_last
theorem atI_hd {w : Sg} {c : Nat} (h : w.head? = some c) : atI w 0 = some c := by
  cases w with
  | nil => cases h
  | cons a l =>
    cases h
    show atI (c :: l) ((0 : Nat) : Int) = _
    rw [atI_of_nat (by simp)]; rfl
theorem cut_first {w : Sg} : cutS (SX.S w) none (some 1) = SX.S (w.take 1) := by
  rw [← S_of (z := cutS _ _ _), cutS_list, HT.sIx_none, show (1 : Int) = ((1 : Nat) : Int) from rfl, HT.sIx_nat, str_len, tl_S, List.drop_zero, Nat.sub_zero]
  congr 1
  cases w <;> simp
theorem cut_rest {w : Sg} : cutS (SX.S w) (some 1) none = SX.S (w.drop 1) := by
  rw [← S_of (z := cutS _ _ _), cutS_list, HT.sIx_none, show (1 : Int) = ((1 : Nat) : Int) from rfl, HT.sIx_nat, str_len, tl_S]
  congr 1
  cases w with
  | nil => rfl
  | cons a l => simp
theorem cut_all {w : Sg} : cutS (SX.S w) (some 0) none = SX.S w := by
  rw [← S_of (z := cutS _ _ _), cutS_list, HT.sIx_none, show (0 : Int) = ((0 : Nat) : Int) from rfl, HT.sIx_nat, str_len, tl_S]
  congr 1
  simp
theorem cut_mid {w : Sg} (h : 1 < w.length) : cutS (SX.S w) (some 1) (some (-1)) = SX.S ((w.drop 1).take (w.length - 2)) := by
  rw [← S_of (z := cutS _ _ _), cutS_list, str_len, tl_S]
  have e1 : HT.sIx w.length 0 (some 1) = 1 := by
    show (if (1 : Int) < 0 then ((1 : Int) + (w.length : Int)).toNat else min (1 : Int).toNat w.length) = 1
    rw [if_neg (by decide)]
    show min 1 w.length = 1
    omega
  have e2 : HT.sIx w.length w.length (some (-1)) = w.length - 1 := by
    show (if (-1 : Int) < 0 then ((-1 : Int) + (w.length : Int)).toNat else min (-1 : Int).toNat w.length) = _
    rw [if_pos (by decide)]
    omega
  rw [e1, e2, show w.length - 1 - 1 = w.length - 2 by omega]
theorem signsW {w : Sg} {i : Nat} {d : D} (h : (signs (SX.S w))[i]? = some d) : ∃ c, w[i]? = some c ∧ d = dS [c] := by
  unfold signs at h
  rw [List.getElem?_map, tl_S] at h
  cases e : w[i]? with
  | none => rw [e] at h; cases h
  | some c => rw [e] at h; cases h; exact ⟨c, rfl, rfl⟩
theorem signs_len {w : Sg} : (signs (SX.S w)).length = w.length := by unfold signs; rw [List.length_map, tl_S]
theorem take_snoc {α : Type} {l : List α} {i : Nat} {d : α} (h : l[i]? = some d) : l.take (i + 1) = l.take i ++ [d] := by rw [List.take_add_one, h]; rfl
/-! a value: plain -/
abbrev sgV : Sg := (Str.ofString " !\"#$&()*+,-./0123456789:<=>?\x40ABCDEFGHIJKLMNOPQRSTUVWXYZ[\\]^_`abcdefghijklmnopqrstuvwxyz{|}~").cps.toList
abbrev sgF : Sg := (Str.ofString "0123456789").cps.toList
theorem mem_F {c : Nat} : c ∈ sgF ↔ 48 ≤ c ∧ c ≤ 57 := by
  have e : sgF = [48, 49, 50, 51, 52, 53, 54, 55, 56, 57] := by decide +kernel
  rw [e]
  simp only [List.mem_cons, List.not_mem_nil, or_false]
  omega
def okT (w : Sg) : Prop := w.length ≤ 20 ∧ ∀ c ∈ w, c ∈ sgV
def okI (n : Int) : Prop := -1000000000000 ≤ n ∧ n ≤ 1000000000000
instance {w : Sg} : Decidable (okT w) := by unfold okT; exact inferInstance
instance {n : Int} : Decidable (okI n) := by unfold okI; exact inferInstance
def figs (w : Sg) : Sg := if w.take 1 = [45] then w.drop 1 else w
def intK (w : Sg) : Int := if w.take 1 = [45] then -(NumText.digitsVal (w.drop 1) : Nat) else (NumText.digitsVal w : Nat)
def numK (w : Sg) : Option Int :=
  if (figs w).length < 1 ∨ 13 < (figs w).length ∨ ((figs w).head? = some 48 ∧ w ≠ [48]) then none
  else if ∀ c ∈ figs w, c ∈ sgF then some (intK w) else none
def quotK (w : Sg) : Prop := 1 < w.length ∧ w.head? = some 39 ∧ w.getLast? = some 39
instance {w : Sg} : Decidable (quotK w) := by unfold quotK; exact inferInstance
def midK (w : Sg) : Sg := (w.drop 1).take (w.length - 2)
def valK (w : Sg) : Option D :=
  if quotK w then (if okT (midK w) then some (dS (midK w)) else none)
  else match numK w with
    | some n => if okI n then some (.int n) else none
    | none => none
/-- int(..) of figures, perhaps with - ahead -/
theorem int_of {w : Sg} (h0 : figs w ≠ []) (h1 : ∀ c ∈ figs w, c ∈ sgF) (h2 : w.length ≤ 640) : PySem.intText? (SX.S w) = some (intK w) := by
  have hd : ∀ l : Sg, (∀ c ∈ l, c ∈ sgF) → PySem.NumText.AllDigits l := fun l h c hc => mem_F.mp (h c hc)
  unfold figs at h0 h1
  unfold intK
  by_cases e : w.take 1 = [45]
  · rw [if_pos e] at h0 h1 ⊢
    cases w with
    | nil => cases e
    | cons a l =>
      cases e
      exact PySem.intText_neg (cs := l) rfl (hd _ h1) h0 (by rw [str_len]; show (45 :: l).length ≤ _; omega)
  · rw [if_neg e] at h0 h1 ⊢
    exact PySem.intText_digits (hd _ h1) h0 (by rw [str_len]; show w.length ≤ _; omega)
/-! the program: whether a value -/
def valD : D → Bool
  | .int n => decide (okI n)
  | .str z => decide (okT z.cps.toList)
  | _ => false
def sp_isval : FSpec where
  al := Int ⊕ Sg
  lev := fun _ => 0
  pre := fun a ds m => ds = [match a with | .inl n => .int n | .inr w => dS w] ∧ ∀ w, a = .inr w → w.length ≤ 1000
  post := fun a m d m' => m' = m ∧ d = .bl (match a with | .inl n => decide (okI n) | .inr w => decide (okT w))
  exc := fun _ _ _ _ => False
theorem b_isval (T : Tb) : BodyOk (t_is_value T) N_is_value sp_isval 1 := by
  intro L a ds m k x hl hk hx hp hq he
  dsimp only [sp_isval] at hl hp hq he
  obtain ⟨rfl, h1⟩ := hp
  unfold t_is_value
  cases a with
  | inl n =>
    dsimp only at *
    walk_at "x"
    by_cases hn : -1000000000000 ≤ n
    · rw [if_pos (decide_eq_true (by omega))]
      walk_at "x"
      refine hq _ _ ⟨rfl, ?_⟩
      congr 1
      exact decide_eq_decide.mpr ⟨fun h => ⟨hn, h⟩, fun h => h.2⟩
    · rw [if_neg (by rw [decide_eq_true_iff]; omega)]
      walk_at "x"
      refine hq _ _ ⟨rfl, ?_⟩
      rw [decide_eq_false (fun h => hn h.1)]
  | inr w =>
    have hw := h1 w rfl
    dsimp only at *
    walk_at "x"
    refine fx_lenW (by omega) ?_
    walk_at "x"
    refine x_iD (fun h => ?_) (fun h => ?_)
    · walk_at "x"
      refine hq _ _ ⟨rfl, ?_⟩
      rw [decide_eq_false (fun g => by have := g.1; omega)]
    walk_at "x"
    refine for3 (fun i s m5 => m5 = m ∧ (∃ c2, s = [some (dS w), c2]) ∧ ∀ c ∈ w.take i, c ∈ sgV) ⟨rfl, ⟨_, rfl⟩, fun c hc => (by cases hc)⟩ (fun _ _ _ _ _ => True.intro) ?_ ?_
    · rintro i d s m5 hd ⟨rfl, ⟨c3, rfl⟩, h2⟩
      obtain ⟨c, hc, rfl⟩ := signsW hd
      walk_at "x"
      refine xf_ninS ?_
      by_cases hv : c ∈ sgV
      · rw [decide_eq_true hv]
        walk_at "x"
        refine ⟨rfl, ⟨_, rfl⟩, fun e he => ?_⟩
        rw [take_snoc hc] at he
        rcases List.mem_append.mp he with he | he
        · exact h2 e he
        · rw [List.mem_singleton.mp he]; exact hv
      · rw [decide_eq_false hv]
        walk_at "x"
        refine hq _ _ ⟨rfl, ?_⟩
        rw [decide_eq_false (fun g => hv (g.2 c (List.mem_of_getElem? hc)))]
    · rintro s m5 ⟨rfl, ⟨c3, rfl⟩, h2⟩
      rw [signs_len, List.take_length] at h2
      walk_at "x"
      refine hq _ _ ⟨rfl, ?_⟩
      rw [decide_eq_true (show okT w from ⟨by omega, h2⟩)]
theorem c_isvalI {T : Tb} {L : Nat} {m : Mp} {k : K3} {x : X3} {n : Int} (hT : T i_is_value sp_isval) (hL : 0 < L) (hk : k (.bl (decide (okI n))) m) : callS T L i_is_value [.int n] m k x := by
  refine x_call hT (.inl n) hL ⟨rfl, fun w h => nomatch h⟩ ?_ (fun _ _ h => h.elim)
  rintro _ m' ⟨rfl, rfl⟩
  exact hk
theorem c_isvalT {T : Tb} {L : Nat} {m : Mp} {k : K3} {x : X3} {w : Sg} (hT : T i_is_value sp_isval) (hL : 0 < L) (h : w.length ≤ 1000) (hk : k (.bl (decide (okT w))) m) : callS T L i_is_value [dS w] m k x := by
  refine x_call hT (.inr w) hL ⟨rfl, fun v e => by cases e; exact h⟩ ?_ (fun _ _ h => h.elim)
  rintro _ m' ⟨rfl, rfl⟩
  exact hk

/-! k65: the program: words, numbers, values -/
abbrev wD (ws : List Sg) : List D := ws.map dS
theorem wD_app {a b : List Sg} : wD (a ++ b) = wD a ++ wD b := List.map_append
theorem dsg {c k : Nat} {z : Str} (h : z = SX.S [k]) : decide (SX.S [c] = z) = decide (c = k) := by
  subst h
  refine decide_eq_decide.mpr (S_eq.trans ?_)
  simp
theorem decT {p : Prop} [Decidable p] (h : p) : decide p = true := decide_eq_true h
theorem str_in {z : Sg} : ∀ {ws : List Sg}, ((ws.map fun w => PyData.str (SX.S w)).any fun y => PyData.eqv y (.str (SX.S z))) = decide (z ∈ ws)
  | [] => by simp
  | a :: ws => by
    rw [List.map_cons, List.any_cons, str_in, eqv_str, show decide (SX.S a = SX.S z) = decide (a = z) from decide_eq_decide.mpr S_eq]
    by_cases h : a = z
    · subst h; simp
    · have h' : ¬ z = a := fun e => h e.symm
      simp [h, h']
theorem dps_strs {m : Mp} : ∀ {ws : List Sg}, DPs m (wD ws) (ws.map fun w => PyData.str (SX.S w))
  | [] => .nil
  | a :: ws => .cons (.str _) dps_strs
theorem xf_inW {z : Sg} {p : Addr} {ws : List Sg} {m : Mp} {k : K3} (h1 : RL m p (wD ws)) (h : k (.bl (decide (z ∈ ws))) m) : fIn false (dS z) (.ref p) m k :=
  .inl ⟨.str (SX.S z), _, _, .str _, .inl ⟨p, rfl, h1⟩, dps_strs, (by simp [PyData.depth]), by rw [str_in]; exact h⟩
def sp_words : FSpec where
  al := Sg
  lev := fun _ => 0
  pre := fun (a : Sg) ds m => ds = [dS a] ∧ a.length ≤ 1000
  post := fun (a : Sg) m d m' => ∃ ws p, d = .ref p ∧ wordsK a = some ws ∧ m p = none ∧ m' p = some (.lst (wD ws)) ∧ Fr [] m m'
  exc := fun (a : Sg) m x m' => wordsK a = none ∧ x = ⟨"NoQuestion", none⟩ ∧ Fr [] m m'
theorem b_words (T : Tb) : BodyOk (t_words_in T) N_words_in sp_words 1 := by
  intro L (w : Sg) ds m k x hl hk hx hp hq he
  dsimp only [sp_words] at hl hp hq he
  obtain ⟨rfl, hw⟩ := hp
  unfold t_words_in
  walk_at "x"
  rename_i p hp
  have hinit : Str.ofString "" = SX.S [] := rfl
  rw [hinit]
  walk_at "x"
  refine for3 (fun i s m5 => ∃ (st : Wk) (c4 : Option D), s = [some (dS w), some (.ref p), some (.bl st.q), some (.bl st.cl), c4] ∧ runK ⟨[], [], false, false⟩ (w.take i) = some st ∧ m5 p = some (.lst (wD (st.done ++ [st.cur]))) ∧ st.done.length ≤ i ∧ st.cur.length ≤ i ∧ Fr [] m m5)
    ⟨⟨[], [], false, false⟩, _, rfl, rfl, mset_same, Nat.le_refl _, Nat.le_refl _, by walk_at "fr"⟩ (fun _ _ _ _ _ => True.intro) ?_ ?_
  · rintro i d s m5 hd ⟨⟨done, cur, q, cl⟩, c4, rfl, t1, t2, t3, t4, t5⟩
    obtain ⟨c, hc, rfl⟩ := signsW hd
    have hi := (List.getElem?_eq_some_iff.mp hc).1
    have hnext : ∀ st', stepK ⟨done, cur, q, cl⟩ c = some st' → runK ⟨[], [], false, false⟩ (w.take (i + 1)) = some st' := fun st' e => by
      rw [take_snoc hc, runK_app, t1]
      show (stepK _ c).bind _ = _
      rw [e]; rfl
    have hnone : stepK ⟨done, cur, q, cl⟩ c = none → wordsK w = none := fun e => by
      unfold wordsK
      have : w = w.take (i + 1) ++ w.drop (i + 1) := (List.take_append_drop _ _).symm
      rw [this, runK_app, take_snoc hc, runK_app, t1]
      show ((((stepK _ c).bind _).bind _).bind _) = none
      rw [e]; rfl
    dsimp only at *
    have hlast : atI (wD (done ++ [cur])) (-1) = some (dS cur) := by rw [wD_app]; exact atI_last
    have hset : ∀ v, (wD (done ++ [cur])).set (wD done).length (dS v) = wD (done ++ [v]) := fun v => by rw [wD_app, wD_app]; exact set_last
    have hix : ixN (wD (done ++ [cur])).length (-1) = some (wD done).length := by rw [wD_app]; exact ixN_last
    have hlen : (wD (done ++ [cur])).length = done.length + 1 := by simp
    have fin : ∀ (st' : Wk) (c4 : Option D) (m6 : Mp), stepK ⟨done, cur, q, cl⟩ c = some st' → m6 p = some (.lst (wD (st'.done ++ [st'.cur]))) → st'.done.length ≤ i + 1 → st'.cur.length ≤ i + 1 → Fr [] m m6 → ∃ (st : Wk) (c4' : Option D), ([some (dS w), some (.ref p), some (.bl st'.q), some (.bl st'.cl), c4] : S3) = [some (dS w), some (.ref p), some (.bl st.q), some (.bl st.cl), c4'] ∧ runK ⟨[], [], false, false⟩ (w.take (i + 1)) = some st ∧ m6 p = some (.lst (wD (st.done ++ [st.cur]))) ∧ st.done.length ≤ i + 1 ∧ st.cur.length ≤ i + 1 ∧ Fr [] m m6 :=
      fun st' c4 m6 e1 e2 e3 e4 e5 => ⟨st', c4, rfl, hnext st' e1, e2, e3, e4, e5⟩
    walk_at "x"
    rw [dsg (k := 32) (z := Str.ofString " ") rfl]
    have refuse : stepK ⟨done, cur, q, cl⟩ c = none → x ⟨"NoQuestion", none⟩ m5 := fun e => he _ _ ⟨hnone e, rfl, t5⟩
    have hblank : c = 32 → q = false → (mset m5 p (.lst (wD (done ++ [cur]) ++ [dS []]))) p = some (.lst (wD ((done ++ [cur]) ++ [[]]))) := fun _ _ => by rw [mset_same, wD_app (a := done ++ [cur])]; rfl
    have hput : (mset m5 p (.lst ((wD (done ++ [cur])).set (wD done).length (dS (cur ++ [c]))))) p = some (.lst (wD (done ++ [cur ++ [c]]))) := by rw [mset_same, hset]
    have hfr : ∀ o, Fr [] m (mset m5 p o) := fun o => by walk_at "fr"
    by_cases hb : c = 32 ∧ q = false
    · obtain ⟨h32, rfl⟩ := hb
      rw [decT h32]
      walk_at "x"
      exact fin ⟨done ++ [cur], [], false, false⟩ _ _ (by simp [stepK, h32]) (hblank h32 rfl) (by simp; omega) (Nat.zero_le _) (hfr _)
    cases q with
    | false =>
      have h32 : c ≠ 32 := fun z => hb ⟨z, rfl⟩
      rw [decide_eq_false h32]
      walk_at "x"
      cases cl with
      | true =>
        walk_at "x"
        exact x_rs (refuse (by simp [stepK, h32]))
      | false =>
        walk_at "x"
        rw [dsg (k := 39) (z := Str.ofString "'") rfl]
        by_cases h39 : c = 39
        · rw [decT h39]
          walk_at "x"
          refine xf_ixL (.inl t2) hlast ?_
          walk_at "x"
          rw [show decide (SX.S cur = SX.S []) = decide (cur = []) from decide_eq_decide.mpr S_eq]
          by_cases h0 : cur = []
          · rw [decT h0]
            walk_at "x"
            refine xf_ixL (.inl t2) hlast ?_
            walk_at "x"
            refine fx_addW (by simp only [List.length_cons, List.length_nil]; omega) ?_
            walk_at "x"
            refine xf_set t2 hix ?_
            walk_at "x"
            rw [dsg (k := 39) (z := Str.ofString "'") rfl, decT h39]
            walk_at "x"
            exact fin ⟨done, cur ++ [c], true, false⟩ _ _ (by simp [stepK, h39, h0]) hput (show done.length ≤ i + 1 by omega) (show (cur ++ [c]).length ≤ i + 1 by rw [List.length_append, List.length_singleton]; omega) (hfr _)
          · rw [decide_eq_false h0]
            walk_at "x"
            exact x_rs (refuse (by simp [stepK, h39, h0]))
        · rw [decide_eq_false h39]
          walk_at "x"
          refine xf_ixL (.inl t2) hlast ?_
          walk_at "x"
          refine fx_addW (by simp only [List.length_cons, List.length_nil]; omega) ?_
          walk_at "x"
          refine xf_set t2 hix ?_
          walk_at "x"
          rw [dsg (k := 39) (z := Str.ofString "'") rfl, decide_eq_false h39]
          walk_at "x"
          exact fin ⟨done, cur ++ [c], false, false⟩ _ _ (by simp [stepK, h32, h39]) hput (show done.length ≤ i + 1 by omega) (show (cur ++ [c]).length ≤ i + 1 by rw [List.length_append, List.length_singleton]; omega) (hfr _)
    | true =>
      by_cases h32 : c = 32
      · rw [decT h32]
        walk_at "x"
        have h39 : c ≠ 39 := by omega
        cases cl with
        | true =>
          walk_at "x"
          exact x_rs (refuse (by simp [stepK]))
        | false =>
          walk_at "x"
          rw [dsg (k := 39) (z := Str.ofString "'") rfl, decide_eq_false h39]
          walk_at "x"
          refine xf_ixL (.inl t2) hlast ?_
          walk_at "x"
          refine fx_addW (by simp only [List.length_cons, List.length_nil]; omega) ?_
          walk_at "x"
          refine xf_set t2 hix ?_
          walk_at "x"
          rw [dsg (k := 39) (z := Str.ofString "'") rfl, decide_eq_false h39]
          walk_at "x"
          exact fin ⟨done, cur ++ [c], true, false⟩ _ _ (by simp [stepK, h39]) hput (show done.length ≤ i + 1 by omega) (show (cur ++ [c]).length ≤ i + 1 by rw [List.length_append, List.length_singleton]; omega) (hfr _)
      · rw [decide_eq_false h32]
        walk_at "x"
        cases cl with
        | true =>
          walk_at "x"
          exact x_rs (refuse (by simp [stepK]))
        | false =>
          walk_at "x"
          rw [dsg (k := 39) (z := Str.ofString "'") rfl]
          by_cases h39 : c = 39
          · rw [decT h39]
            walk_at "x"
            refine xf_ixL (.inl t2) hlast ?_
            walk_at "x"
            refine fx_addW (by simp only [List.length_cons, List.length_nil]; omega) ?_
            walk_at "x"
            refine xf_set t2 hix ?_
            walk_at "x"
            rw [dsg (k := 39) (z := Str.ofString "'") rfl, decT h39]
            walk_at "x"
            exact fin ⟨done, cur ++ [c], false, true⟩ _ _ (by simp [stepK, h39]) hput (show done.length ≤ i + 1 by omega) (show (cur ++ [c]).length ≤ i + 1 by rw [List.length_append, List.length_singleton]; omega) (hfr _)
          · rw [decide_eq_false h39]
            walk_at "x"
            refine xf_ixL (.inl t2) hlast ?_
            walk_at "x"
            refine fx_addW (by simp only [List.length_cons, List.length_nil]; omega) ?_
            walk_at "x"
            refine xf_set t2 hix ?_
            walk_at "x"
            rw [dsg (k := 39) (z := Str.ofString "'") rfl, decide_eq_false h39]
            walk_at "x"
            exact fin ⟨done, cur ++ [c], true, false⟩ _ _ (by simp [stepK, h39]) hput (show done.length ≤ i + 1 by omega) (show (cur ++ [c]).length ≤ i + 1 by rw [List.length_append, List.length_singleton]; omega) (hfr _)
  · rintro s m5 ⟨⟨done, cur, q, cl⟩, c4, rfl, t1, t2, t3, t4, t5⟩
    rw [signs_len, List.take_length] at t1
    dsimp only at *
    have hwk : wordsK w = endK ⟨done, cur, q, cl⟩ := by unfold wordsK; rw [t1]; rfl
    walk_at "x"
    cases q with
    | true =>
      walk_at "x"
      exact x_rs (he _ _ ⟨by rw [hwk]; simp [endK], rfl, t5⟩)
    | false =>
      walk_at "x"
      refine xf_inW (.inl t2) ?_
      by_cases h0 : [] ∈ done ++ [cur]
      · rw [decT h0]
        walk_at "x"
        exact x_rs (he _ _ ⟨by rw [hwk]; exact if_pos (.inr h0), rfl, t5⟩)
      · rw [decide_eq_false h0]
        walk_at "x"
        exact hq _ _ ⟨_, p, rfl, by rw [hwk]; exact if_neg (fun z => z.elim (fun z => nomatch z) h0), hp, t2, t5⟩

/-! k65: the program: numbers, values -/
theorem c_words {T : Tb} {L : Nat} {m : Mp} {k : K3} {x : X3} {w : Sg} (hT : T i_words_in sp_words) (hL : 0 < L) (h : w.length ≤ 1000)
    (hk : ∀ ws p m', wordsK w = some ws → m p = none → m' p = some (.lst (wD ws)) → Fr [] m m' → k (.ref p) m') (hx : ∀ m', wordsK w = none → Fr [] m m' → x ⟨"NoQuestion", none⟩ m') : callS T L i_words_in [dS w] m k x := by
  refine x_call hT w hL ⟨rfl, h⟩ ?_ ?_
  · rintro _ m' ⟨ws, p, rfl, a, b, c, e⟩
    exact hk ws p m' a b c e
  · rintro _ m' ⟨a, rfl, c⟩
    exact hx m' a c
theorem fx_ixW {w : Sg} {n : Int} {c : Nat} {m : Mp} {k : K3} (h0 : w.length ≤ 100000) (h2 : atI w n = some c) (h : k (dS [c]) m) : fIx (dS w) (.int n) m k := xf_ixS (by rw [str_len]; exact Nat.le_trans h0 (by decide)) h2 h
theorem decF {p : Prop} [Decidable p] (h : ¬ p) : decide p = false := decide_eq_false h
def numD (w : Sg) : D := match numK w with
  | some n => .int n
  | none => .non
theorem numD_n {w : Sg} (h : numK w = none) : numD w = .non := by unfold numD; rw [h]
theorem numD_s {w : Sg} {n : Int} (h : numK w = some n) : numD w = .int n := by unfold numD; rw [h]
def sp_numof : FSpec where
  al := Sg
  lev := fun _ => 0
  pre := fun (a : Sg) ds m => ds = [dS a] ∧ a.length ≤ 600
  post := fun (a : Sg) m d m' => d = numD a ∧ m' = m
  exc := fun _ _ _ _ => False
theorem b_numof (T : Tb) : BodyOk (t_number_of T) N_number_of sp_numof 1 := by
  intro L (w : Sg) ds m k x hl hk hx hp hq he
  dsimp only [sp_numof] at hl hp hq he
  obtain ⟨rfl, hw⟩ := hp
  have hfl : (figs w).length ≤ w.length := by
    unfold figs
    split
    · rw [List.length_drop]; omega
    · exact Nat.le_refl _
  have no : numK w = none → k .non m := fun h => hq _ _ ⟨(numD_n h).symm, rfl⟩
  unfold t_number_of
  walk_at "x"
  refine x_seqJ (fun s m3 => s = [some (dS w), some (dS (figs w)), none] ∧ m3 = m) ?_ ?_
  rotate_left
  · intro n hn
    walk_at "x"
    refine xf_slS' (by show w.length ≤ _; omega) ?_
    rw [cut_first]
    walk_at "x"
    rw [show decide (SX.S (w.take 1) = Str.ofString "-") = decide (w.take 1 = [45]) from decide_eq_decide.mpr S_eq]
    by_cases h : w.take 1 = [45]
    · rw [decT h]
      walk_at "x"
      refine xf_slS' (by show w.length ≤ _; omega) ?_
      rw [cut_rest]
      walk_at "x"
      exact hn _ _ ⟨by unfold figs; rw [if_pos h]; rfl, rfl⟩
    · rw [decF h]
      walk_at "x"
      exact hn _ _ ⟨by unfold figs; rw [if_neg h]; rfl, rfl⟩
  rintro s m3 ⟨rfl, rfl⟩
  refine x_seqJ (fun s m' => s = [some (dS w), some (dS (figs w)), none] ∧ m' = m3 ∧ ¬ ((figs w).length < 1 ∨ 13 < (figs w).length ∨ ((figs w).head? = some 48 ∧ w ≠ [48]))) ?_ ?_
  rotate_left
  · intro n hn
    walk_at "x"
    refine fx_lenW (by omega) ?_
    walk_at "x"
    refine x_iD (fun h => ?_) (fun h1 => ?_)
    · walk_at "x"
      exact no (if_pos (.inl (by omega)))
    walk_at "x"
    refine fx_lenW (by omega) ?_
    walk_at "x"
    refine x_iD (fun h => ?_) (fun h2 => ?_)
    · walk_at "x"
      exact no (if_pos (.inr (.inl (by omega))))
    walk_at "x"
    have hne : figs w ≠ [] := fun e => by rw [e] at h1; exact h1 (by decide)
    obtain ⟨c, l, hcl⟩ := List.exists_cons_of_ne_nil hne
    have hhd : (figs w).head? = some c := by rw [hcl]; rfl
    refine fx_ixW (by omega) (atI_hd hhd) ?_
    walk_at "x"
    rw [dsg (k := 48) (z := Str.ofString "0") rfl]
    have ok : ¬ (c = 48 ∧ w ≠ [48]) → n [some (dS w), some (dS (figs w)), none] m3 := fun h => hn _ _ ⟨rfl, rfl, fun z => by
      rcases z with z | z | ⟨z, z'⟩
      · omega
      · omega
      · rw [hhd] at z; exact h ⟨Option.some.inj z, z'⟩⟩
    by_cases h48 : c = 48
    · rw [decT h48]
      walk_at "x"
      rw [show decide (SX.S w = Str.ofString "0") = decide (w = [48]) from decide_eq_decide.mpr S_eq]
      by_cases hw48 : w = [48]
      · rw [decT hw48]
        walk_at "x"
        exact ok fun z => z.2 hw48
      · rw [decF hw48]
        walk_at "x"
        exact no (if_pos (.inr (.inr ⟨by rw [hhd, h48], hw48⟩)))
    · rw [decF h48]
      walk_at "x"
      exact ok fun z => h48 z.1
  rintro s m4 ⟨rfl, rfl, hc⟩
  walk_at "x"
  refine for3 (fun i s m5 => m5 = m4 ∧ (∃ c2, s = [some (dS w), some (dS (figs w)), c2]) ∧ ∀ c ∈ (figs w).take i, c ∈ sgF) ⟨rfl, ⟨_, rfl⟩, fun c hc => (by cases hc)⟩ (fun _ _ _ _ _ => True.intro) ?_ ?_
  · rintro i d s m5 hd ⟨rfl, ⟨c3, rfl⟩, h2⟩
    obtain ⟨c, hcc, rfl⟩ := signsW hd
    walk_at "x"
    refine xf_ninS ?_
    by_cases hv : c ∈ sgF
    · rw [decT hv]
      walk_at "x"
      refine ⟨rfl, ⟨_, rfl⟩, fun e he => ?_⟩
      rw [take_snoc hcc] at he
      rcases List.mem_append.mp he with he | he
      · exact h2 e he
      · rw [List.mem_singleton.mp he]; exact hv
    · rw [decF hv]
      walk_at "x"
      refine no ?_
      unfold numK
      rw [if_neg hc, if_neg (fun g => hv (g c (List.mem_of_getElem? hcc)))]
  · rintro s m5 ⟨rfl, ⟨c3, rfl⟩, h2⟩
    rw [signs_len, List.take_length] at h2
    walk_at "x"
    refine xf_intS (int_of (fun e => hc (.inl (by rw [e]; decide))) h2 (by omega)) (by rw [str_len]; show w.length ≤ 640; omega) ?_
    refine hq _ _ ⟨(numD_s ?_).symm, rfl⟩
    unfold numK
    rw [if_neg hc, if_pos h2]
theorem c_numof {T : Tb} {L : Nat} {m : Mp} {k : K3} {x : X3} {w : Sg} (hT : T i_number_of sp_numof) (hL : 0 < L) (h : w.length ≤ 600) (hk : k (numD w) m) : callS T L i_number_of [dS w] m k x := by
  refine x_call hT w hL ⟨rfl, h⟩ ?_ (fun _ _ h => h.elim)
  rintro _ m' ⟨rfl, rfl⟩
  exact hk
theorem mid_len {w : Sg} : (midK w).length ≤ w.length := by unfold midK; rw [List.length_take, List.length_drop]; omega
def sp_valof : FSpec where
  al := Sg
  lev := fun _ => 1
  pre := fun (a : Sg) ds m => ds = [dS a] ∧ a.length ≤ 600
  post := fun (a : Sg) m d m' => valK a = some d ∧ m' = m
  exc := fun (a : Sg) m x m' => valK a = none ∧ x = ⟨"NoQuestion", none⟩ ∧ m' = m
theorem b_valof (T : Tb) (hN : T i_number_of sp_numof) (hV : T i_is_value sp_isval) : BodyOk (t_value_of T) N_value_of sp_valof 1 := by
  intro L (w : Sg) ds m k x hl hk hx hp hq he
  dsimp only [sp_valof] at hl hp hq he
  obtain ⟨rfl, hw⟩ := hp
  have hml := mid_len (w := w)
  unfold t_value_of
  walk_at "x"
  refine c_numof hN (by omega) hw ?_
  walk_at "x"
  refine x_seqJ (fun s m3 => (∃ v, s = [some (dS w), some v] ∧ v = if quotK w then dS (midK w) else numD w) ∧ m3 = m) ?_ ?_
  rotate_left
  · intro n hn
    walk_at "x"
    refine fx_lenW (by omega) ?_
    have no : ¬ quotK w → n [some (dS w), some (numD w)] m := fun h => hn _ _ ⟨⟨_, rfl, (if_neg h).symm⟩, rfl⟩
    walk_at "x"
    refine x_iD (fun h => ?_) (fun h => ?_)
    rotate_left
    · walk_at "x"
      exact no fun z => h (by have := z.1; omega)
    walk_at "x"
    have hne : w ≠ [] := fun e => by rw [e] at h; exact absurd h (by decide)
    obtain ⟨c, l, hcl⟩ := List.exists_cons_of_ne_nil hne
    have hhd : w.head? = some c := by rw [hcl]; rfl
    refine fx_ixW (by omega) (atI_hd hhd) ?_
    walk_at "x"
    rw [dsg (k := 39) (z := Str.ofString "'") rfl]
    by_cases h39 : c = 39
    rotate_left
    · rw [decF h39]
      walk_at "x"
      exact no fun z => h39 (by have := z.2.1; rw [hhd] at this; exact Option.some.inj this)
    rw [decT h39]
    walk_at "x"
    obtain ⟨e, hel⟩ : ∃ e, w.getLast? = some e := ⟨_, List.getLast?_eq_some_getLast hne⟩
    refine fx_ixW (by omega) (atI_lastG hel) ?_
    walk_at "x"
    rw [dsg (k := 39) (z := Str.ofString "'") rfl]
    by_cases h40 : e = 39
    rotate_left
    · rw [decF h40]
      walk_at "x"
      exact no fun z => h40 (by have := z.2.2; rw [hel] at this; exact Option.some.inj this)
    rw [decT h40]
    walk_at "x"
    have hqk : quotK w := ⟨by omega, by rw [hhd, h39], by rw [hel, h40]⟩
    refine xf_slS' (by show w.length ≤ _; omega) ?_
    rw [cut_mid (by omega)]
    walk_at "x"
    exact hn _ _ ⟨⟨_, rfl, (if_pos hqk).symm⟩, rfl⟩
  rintro s m3 ⟨⟨v, rfl, hv⟩, rfl⟩
  by_cases hqk : quotK w
  · rw [if_pos hqk] at hv
    subst hv
    walk_at "x"
    refine c_isvalT hV (by omega) (by omega) ?_
    walk_at "x"
    by_cases ho : okT (midK w)
    · rw [decT ho]
      walk_at "x"
      exact hq _ _ ⟨by unfold valK; rw [if_pos hqk, if_pos ho], rfl⟩
    · rw [decF ho]
      walk_at "x"
      exact x_rs (he _ _ ⟨by unfold valK; rw [if_pos hqk, if_neg ho], rfl, rfl⟩)
  · rw [if_neg hqk] at hv
    cases hn : numK w with
    | none =>
      rw [numD_n hn] at hv
      subst hv
      walk_at "x"
      exact x_rs (he _ _ ⟨by unfold valK; rw [if_neg hqk, hn], rfl, rfl⟩)
    | some n =>
      rw [numD_s hn] at hv
      subst hv
      walk_at "x"
      refine c_isvalI hV (by omega) ?_
      walk_at "x"
      by_cases ho : okI n
      · rw [decT ho]
        walk_at "x"
        exact hq _ _ ⟨by unfold valK; rw [if_neg hqk, hn]; exact if_pos ho, rfl⟩
      · rw [decF ho]
        walk_at "x"
        exact x_rs (he _ _ ⟨by unfold valK; rw [if_neg hqk, hn]; exact if_neg ho, rfl, rfl⟩)
theorem c_valof {T : Tb} {L : Nat} {m : Mp} {k : K3} {x : X3} {w : Sg} (hT : T i_value_of sp_valof) (hL : 1 < L) (h : w.length ≤ 600) (hk : ∀ d, valK w = some d → k d m) (hx : valK w = none → x ⟨"NoQuestion", none⟩ m) : callS T L i_value_of [dS w] m k x := by
  refine x_call hT w hL ⟨rfl, h⟩ ?_ ?_
  · rintro d m' ⟨a, rfl⟩
    exact hk d a
  · rintro _ m' ⟨a, rfl, rfl⟩
    exact hx a

/-! k65: the law's parts -/
theorem joinL_blanks : ∀ {ps : List Sg} {p : Sg}, TL.joinL [32] (p :: ps) = p ++ blanks ps
  | [], p => (List.append_nil p).symm
  | q :: ps, p => by
    show p ++ ([32] ++ TL.joinL [32] (q :: ps)) = _
    rw [joinL_blanks]
    rfl
theorem tl_inj {ys : List Str} : ys = (ys.map TL.tl).map SX.S := by
  rw [List.map_map]
  conv => lhs; rw [← List.map_id ys]
  refine List.map_congr_left fun z _ => ?_
  exact (SX.S_tl z).symm
theorem split_is (w : Sg) : ∃ p ps, Txt.split (SX.S w) ⟨#[32]⟩ = (p :: ps).map SX.S ∧ w = p ++ blanks ps ∧ ∀ x ∈ p :: ps, 32 ∉ x := by
  have h1 := PyProof.Rows.split_pos (SX.S w) ⟨#[32]⟩
  have h2 := PySem.StrLaws.join_split (SX.S w) ⟨#[32]⟩
  have h3 := PySem.StrLaws.split_free (SX.S w) 32
  have h4 := tl_inj (ys := Txt.split (SX.S w) ⟨#[32]⟩)
  generalize Txt.split (SX.S w) ⟨#[32]⟩ = l at *
  cases l with
  | nil => exact absurd h1 (by decide)
  | cons z l =>
    have h5 := congrArg TL.tl h2
    rw [TL.tl_join] at h5
    rw [List.map_cons] at h5
    rw [show TL.tl (⟨#[32]⟩ : Str) = [32] from rfl, joinL_blanks] at h5
    refine ⟨TL.tl z, l.map TL.tl, h4, h5.symm, fun x hx => ?_⟩
    obtain ⟨y, hy, rfl⟩ := List.mem_map.mp (show x ∈ (z :: l).map TL.tl from hx)
    exact h3 y hy
theorem cnt_is {l : Sg} {c : Nat} : PyProof.Rows.cnt c l = (l.count c : Nat) := by
  induction l with
  | nil => rfl
  | cons a l ih =>
    rw [PyProof.Rows.cnt_cons, ih, List.count_cons]
    by_cases h : a = c
    · subst h; simp; omega
    · simp [h]
theorem count_S {v : Sg} {c : Nat} : Txt.count (SX.S v) ⟨#[c]⟩ = (v.count c : Nat) := by
  rw [PyProof.Rows.count_is]
  exact cnt_is
/-! the parts so far -/
def wordsO : Option (List Sg × Sg) → List Sg
  | none => []
  | some r => r.1 ++ [r.2]
def waitO : Option (List Sg × Sg) → Bool
  | none => false
  | some r => isW r.2
def stepO : Option (List Sg × Sg) → Sg → Option (List Sg × Sg)
  | none, p => some ([], p)
  | some r, p => some (stepP r p)
theorem foldO : ∀ {ps : List Sg} {r : List Sg × Sg}, ps.foldl stepO (some r) = some (ps.foldl stepP r)
  | [], r => rfl
  | p :: ps, r => foldO (ps := ps) (r := stepP r p)
theorem blanks_app {a b : List Sg} : blanks (a ++ b) = blanks a ++ blanks b := List.flatMap_append
theorem blanks_len {ps : List Sg} : ps.length ≤ (blanks ps).length := by
  induction ps with
  | nil => exact Nat.zero_le _
  | cons p ps ih => rw [blanks_c]; simp only [List.length_cons, List.length_append]; omega
def sp_parted : FSpec where
  al := Sg
  lev := fun _ => 0
  pre := fun (a : Sg) ds m => ds = [dS a] ∧ a.length ≤ 1000
  post := fun (a : Sg) m d m' => ((wordsK a = none ∧ d = .non) ∨ ∃ ws p, d = .ref p ∧ wordsK a = some ws ∧ m' p = some (.lst (wD ws))) ∧ Fr [] m m'
  exc := fun _ _ _ _ => False
theorem b_parted (T : Tb) : BodyOk (t_law_parted T) N_law_parted sp_parted 1 := by
  intro L (w : Sg) ds m k x hl hk hx hp hq he
  dsimp only [sp_parted] at hl hp hq he
  obtain ⟨rfl, hw⟩ := hp
  unfold t_law_parted
  walk_at "x"
  rename_i q hq0
  obtain ⟨p0, ps, hsp, hwe, hfree⟩ := split_is w
  have hlaw := words_law hfree
  rw [← hwe] at hlaw
  have hbl : (blanks (p0 :: ps)).length = w.length + 1 := by
    rw [blanks_c, hwe]
    simp only [List.length_cons, List.length_append]
    omega
  have hpl := blanks_len (ps := p0 :: ps)
  have htk : ∀ i, (blanks ((p0 :: ps).take i)).length ≤ w.length + 1 := fun i => by
    have e := congrArg List.length (congrArg blanks (List.take_append_drop i (p0 :: ps)))
    rw [blanks_app, List.length_append] at e
    omega
  show fSplit (dS w) [.str ⟨#[32]⟩] _ _
  refine xf_split (by show w.length ≤ _; omega) (fun z hz => ?_)
  rw [hsp, List.map_map]
  have qz : q ≠ z := by walk_at "ne"
  have F0 : Fr [] m (mset (mset m q (.lst [])) z (.lst (wD (p0 :: ps)))) := by walk_at "fr"
  have z0 : (mset (mset m q (.lst [])) z (.lst (wD (p0 :: ps)))) z = some (.lst (wD (p0 :: ps))) := mset_same
  have q0 : (mset (mset m q (.lst [])) z (.lst (wD (p0 :: ps)))) q = some (.lst []) := (mset_ne qz).trans mset_same
  show itD (.ref z) (mset (mset m q (.lst [])) z (.lst (wD (p0 :: ps)))) _
  generalize mset (mset m q (.lst [])) z (.lst (wD (p0 :: ps))) = m1 at *
  walk_at "x"
  refine for3 (fun i s m5 => ∃ (st : Option (List Sg × Sg)) (c3 : Option D), s = [some (dS w), some (.ref q), some (.bl (waitO st)), c3, none, none] ∧ st = ((p0 :: ps).take i).foldl stepO none ∧ m5 q = some (.lst (wD (wordsO st))) ∧ (wordsO st).length ≤ i ∧ (∀ v ∈ wordsO st, v.length ≤ (blanks ((p0 :: ps).take i)).length) ∧ m5 z = some (.lst (wD (p0 :: ps))) ∧ Fr [] m m5)
    ⟨none, _, rfl, rfl, q0, Nat.zero_le _, (fun v h => nomatch h), z0, F0⟩ (fun i s m5 _ h => by obtain ⟨_, _, _, _, _, _, _, h, _⟩ := h; exact .inl h) ?_ ?_
  · rintro i d s m5 hd ⟨st, c3, rfl, t1, t2, t3, t4, t5, t6⟩
    rw [List.getElem?_map] at hd
    cases hpi : (p0 :: ps)[i]? with
    | none => rw [hpi] at hd; cases hd
    | some p =>
    rw [hpi] at hd
    cases hd
    have hi := (List.getElem?_eq_some_iff.mp hpi).1
    have tki := htk i
    have tki1 := htk (i + 1)
    have hbs : (blanks ((p0 :: ps).take (i + 1))).length = (blanks ((p0 :: ps).take i)).length + (p.length + 1) := by
      rw [take_snoc hpi, blanks_app, List.length_append, blanks_c]
      show _ + (32 :: p ++ []).length = _
      simp
    have hst' : ((p0 :: ps).take (i + 1)).foldl stepO none = stepO st p := by rw [take_snoc hpi, List.foldl_append, ← t1]; rfl
    walk_at "x"
    refine x_seqJ (fun s m6 => ∃ dn v, s = [some (dS w), some (.ref q), some (.bl (waitO st)), some (dS p), none, none] ∧ stepO st p = some (dn, v) ∧ m6 q = some (.lst (wD (dn ++ [v]))) ∧ dn.length ≤ i ∧ (∀ u ∈ dn ++ [v], u.length ≤ (blanks ((p0 :: ps).take (i + 1))).length) ∧ m6 z = some (.lst (wD (p0 :: ps))) ∧ Fr [] m m6) ?_ ?_
    · rintro s m6 ⟨dn, v, rfl, u1, u2, u3, u4, u5, u6⟩
      have hv := u4 v (List.mem_append_right _ List.mem_cons_self)
      have hlast : atI (wD (dn ++ [v])) (-1) = some (dS v) := by rw [wD_app]; exact atI_last
      have fin : ∀ b, b = isW v → ∃ (st' : Option (List Sg × Sg)) (c3 : Option D), ([some (dS w), some (.ref q), some (.bl b), some (dS p), none, none] : S3) = [some (dS w), some (.ref q), some (.bl (waitO st')), c3, none, none] ∧ st' = ((p0 :: ps).take (i + 1)).foldl stepO none ∧ m6 q = some (.lst (wD (wordsO st'))) ∧ (wordsO st').length ≤ i + 1 ∧ (∀ v ∈ wordsO st', v.length ≤ (blanks ((p0 :: ps).take (i + 1))).length) ∧ m6 z = some (.lst (wD (p0 :: ps))) ∧ Fr [] m m6 := fun b e => by
        subst e
        exact ⟨some (dn, v), _, rfl, by rw [hst', u1], u2, (by show (dn ++ [v]).length ≤ i + 1; rw [List.length_append, List.length_singleton]; omega), u4, u5, u6⟩
      walk_at "x"
      refine xf_ixL (.inl u2) hlast ?_
      walk_at "x"
      refine xf_slS' (by show v.length ≤ _; omega) ?_
      rw [cut_first]
      walk_at "x"
      rw [show decide (SX.S (v.take 1) = Str.ofString "'") = decide (v.take 1 = [39]) from decide_eq_decide.mpr S_eq]
      by_cases h1 : v.take 1 = [39]
      rotate_left
      · rw [decF h1]
        walk_at "x"
        refine fin false ?_
        unfold isW
        rw [show (v.take 1 == [39]) = false from beq_eq_false_iff_ne.mpr h1]
        rfl
      have hne : v ≠ [] := fun e => by rw [e] at h1; cases h1
      have hW : isW v = (v.length == 1 || v.getLast? != some 39) := by unfold isW; rw [h1]; rfl
      rw [decT h1]
      walk_at "x"
      refine xf_ixL (.inl u2) hlast ?_
      walk_at "x"
      refine fx_lenW (by omega) ?_
      walk_at "x"
      by_cases h2 : v.length = 1
      · rw [decT (show (v.length : Int) = 1 by omega)]
        walk_at "x"
        exact fin true (by rw [hW, h2]; rfl)
      rw [decF (show ¬ (v.length : Int) = 1 by omega)]
      walk_at "x"
      refine xf_ixL (.inl u2) hlast ?_
      walk_at "x"
      obtain ⟨e, hel⟩ : ∃ e, v.getLast? = some e := ⟨_, List.getLast?_eq_some_getLast hne⟩
      refine fx_ixW (by omega) (atI_lastG hel) ?_
      walk_at "x"
      rw [dsg (k := 39) (z := Str.ofString "'") rfl]
      refine fin _ ?_
      rw [hW, show (v.length == 1) = false from beq_eq_false_iff_ne.mpr h2, hel, Bool.false_or]
      by_cases h3 : e = 39
      · rw [decT h3, h3]; rfl
      · rw [decF h3]
        exact (bne_iff_ne.mpr (fun z => h3 (Option.some.inj z))).symm
    · intro n hn
      cases st with
      | none =>
        walk_at "x"
        exact hn _ _ ⟨[], p, rfl, rfl, mset_same, Nat.zero_le _, (fun u hu => by rw [List.mem_singleton.mp hu, hbs]; omega), (mset_ne (Ne.symm qz)).trans t5, by walk_at "fr"⟩
      | some r =>
        have hlast : atI (wD (r.1 ++ [r.2])) (-1) = some (dS r.2) := by rw [wD_app]; exact atI_last
        have t2 : m5 q = some (.lst (wD (r.1 ++ [r.2]))) := t2
        have t3 : (r.1 ++ [r.2]).length ≤ i := t3
        have t4 : ∀ v ∈ r.1 ++ [r.2], v.length ≤ (blanks ((p0 :: ps).take i)).length := t4
        have hl1 : (r.1 ++ [r.2]).length = r.1.length + 1 := by rw [List.length_append, List.length_singleton]
        have hl2 : (wD (r.1 ++ [r.2])).length = r.1.length + 1 := by rw [List.length_map, hl1]
        have hv := t4 r.2 (List.mem_append_right _ List.mem_cons_self)
        rw [show waitO (some r) = isW r.2 from rfl]
        cases hwt : isW r.2 with
        | true =>
          have hix : ixN (wD (r.1 ++ [r.2])).length (-1) = some (wD r.1).length := by rw [wD_app]; exact ixN_last
          have hset : ∀ v, (wD (r.1 ++ [r.2])).set (wD r.1).length (dS v) = wD (r.1 ++ [v]) := fun v => by rw [wD_app, wD_app]; exact set_last
          walk_at "x"
          refine xf_ixL (.inl t2) hlast ?_
          walk_at "x"
          refine fx_addW (b := [32]) (by simp only [List.length_cons, List.length_nil]; omega) ?_
          walk_at "x"
          refine fx_addW (by simp only [List.length_append, List.length_cons, List.length_nil]; omega) ?_
          walk_at "x"
          refine xf_set t2 hix ?_
          rw [hset]
          refine hn _ _ ⟨r.1, r.2 ++ [32] ++ p, (by rw [show waitO (some r) = true from hwt]; rfl), ?_, mset_same, by omega, (fun u hu => ?_), (mset_ne (Ne.symm qz)).trans t5, by walk_at "fr"⟩
          · show some (stepP r p) = _
            unfold stepP
            rw [hwt, if_pos rfl, List.append_assoc]; rfl
          · rcases List.mem_append.mp hu with hu | hu
            · have := t4 u (List.mem_append_left _ hu); omega
            · rw [List.mem_singleton.mp hu, hbs]
              simp only [List.length_append, List.length_cons, List.length_nil]; omega
        | false =>
          walk_at "x"
          refine hn _ _ ⟨r.1 ++ [r.2], p, (by rw [show waitO (some r) = false from hwt]; rfl), ?_, ?_, t3, (fun u hu => ?_), (mset_ne (Ne.symm qz)).trans t5, by walk_at "fr"⟩
          · show some (stepP r p) = _
            unfold stepP
            rw [hwt]; rfl
          · rw [mset_same, wD_app (a := r.1 ++ [r.2])]; rfl
          · rcases List.mem_append.mp hu with hu | hu
            · have := t4 u hu; omega
            · rw [List.mem_singleton.mp hu, hbs]; omega
  · rintro s m5 ⟨st, c3, rfl, t1, t2, t3, t4, t5, t6⟩
    rw [List.length_map, List.take_length] at t1
    rw [List.length_map, List.take_length] at t4
    rw [List.length_map] at t3
    have hst : st = some (ps.foldl stepP ([], p0)) := by rw [t1]; exact foldO
    have hwo : wordsO st = partsK ([], p0) ps := by rw [hst]; rfl
    rw [hwo] at t2 t3 t4
    generalize partsK ([], p0) ps = ws at *
    have hbad : ∀ v ∈ ws, ¬ goodW v → k .non m5 := fun v h1 h2 => hq _ _ ⟨.inl ⟨by rw [hlaw]; exact endP_no ⟨v, h1, h2⟩, rfl⟩, t6⟩
    walk_at "x"
    refine for3 (fun i s m6 => m6 = m5 ∧ (∃ c4 c5, s = [some (dS w), some (.ref q), some (.bl (waitO st)), c3, c4, c5]) ∧ ∀ v ∈ ws.take i, goodW v) ⟨rfl, ⟨_, _, rfl⟩, fun v h => by cases h⟩ (fun i s m6 _ h => by rw [h.1]; exact .inl t2) ?_ ?_
    · rintro i d s m6 hd ⟨rfl, ⟨c4, c5, rfl⟩, h2⟩
      rw [List.getElem?_map] at hd
      cases hvi : ws[i]? with
      | none => rw [hvi] at hd; cases hd
      | some v =>
      rw [hvi] at hd
      cases hd
      have hvm := List.mem_of_getElem? hvi
      have hvl := t4 v hvm
      have bad := hbad v hvm
      have good : ∀ c5, goodW v → (m6 = m6 ∧ (∃ c4 c5', ([some (dS w), some (.ref q), some (.bl (waitO st)), c3, some (dS v), c5] : S3) = [some (dS w), some (.ref q), some (.bl (waitO st)), c3, c4, c5']) ∧ ∀ u ∈ ws.take (i + 1), goodW u) := fun c5 g => ⟨rfl, ⟨_, _, rfl⟩, fun u hu => by
        rw [take_snoc hvi] at hu
        rcases List.mem_append.mp hu with hu | hu
        · exact h2 u hu
        · rw [List.mem_singleton.mp hu]; exact g⟩
      walk_at "x"
      show fCntS (dS v) [.str ⟨#[39]⟩] _ _
      refine xf_cntS ?_
      rw [count_S]
      walk_at "x"
      rw [show decide (SX.S v = Str.ofString "") = decide (v = []) from decide_eq_decide.mpr S_eq]
      by_cases h0 : v = []
      · rw [decT h0]
        walk_at "x"
        exact bad fun g => g.1 h0
      rw [decF h0]
      walk_at "x"
      by_cases c0 : v.count 39 = 0
      · rw [c0]
        walk_at "x"
        exact good _ ⟨h0, .inl c0⟩
      rw [decF (show ¬ ((v.count 39 : Nat) : Int) = 0 by omega)]
      walk_at "x"
      by_cases c2 : v.count 39 = 2
      rotate_left
      · rw [decF (show ¬ ((v.count 39 : Nat) : Int) = 2 by omega)]
        walk_at "x"
        exact bad fun g => g.2.elim c0 fun g => c2 g.1
      rw [decT (show ((v.count 39 : Nat) : Int) = 2 by omega)]
      walk_at "x"
      obtain ⟨c, l, hcl⟩ := List.exists_cons_of_ne_nil h0
      have hhd : v.head? = some c := by rw [hcl]; rfl
      refine fx_ixW (by omega) (atI_hd hhd) ?_
      walk_at "x"
      rw [dsg (k := 39) (z := Str.ofString "'") rfl]
      by_cases h39 : c = 39
      rotate_left
      · rw [decF h39]
        walk_at "x"
        exact bad fun g => g.2.elim c0 fun g => h39 (by have := g.2.1; rw [hhd] at this; exact Option.some.inj this)
      rw [decT h39]
      walk_at "x"
      obtain ⟨e, hel⟩ : ∃ e, v.getLast? = some e := ⟨_, List.getLast?_eq_some_getLast h0⟩
      refine fx_ixW (by omega) (atI_lastG hel) ?_
      walk_at "x"
      rw [dsg (k := 39) (z := Str.ofString "'") rfl]
      by_cases h40 : e = 39
      · rw [decT h40]
        walk_at "x"
        exact good _ ⟨h0, .inr ⟨c2, by rw [hhd, h39], by rw [hel, h40]⟩⟩
      · rw [decF h40]
        walk_at "x"
        exact bad fun g => g.2.elim c0 fun g => h40 (by have := g.2.2; rw [hel] at this; exact Option.some.inj this)
    · rintro s m6 ⟨rfl, ⟨c4, c5, rfl⟩, h2⟩
      rw [List.length_map, List.take_length] at h2
      walk_at "x"
      exact hq _ _ ⟨.inr ⟨ws, q, rfl, by rw [hlaw]; exact if_pos h2, t2⟩, t6⟩
theorem c_parted {T : Tb} {L : Nat} {m : Mp} {k : K3} {x : X3} {w : Sg} (hT : T i_law_parted sp_parted) (hL : 0 < L) (h : w.length ≤ 1000)
    (hn : ∀ m', wordsK w = none → Fr [] m m' → k .non m') (hk : ∀ ws p m', wordsK w = some ws → m' p = some (.lst (wD ws)) → Fr [] m m' → k (.ref p) m') : callS T L i_law_parted [dS w] m k x := by
  refine x_call hT w hL ⟨rfl, h⟩ ?_ (fun _ _ h => h.elim)
  rintro d m' ⟨⟨a, rfl⟩ | ⟨ws, p, rfl, a, b⟩, c⟩
  · exact hn m' a c
  · exact hk ws p m' a b c

/-! k65: the law's worth of a word -/
theorem mem_V {c : Nat} : c ∈ sgV ↔ 32 ≤ c ∧ c ≤ 126 ∧ c ≠ 37 ∧ c ≠ 39 ∧ c ≠ 59 := by
  by_cases h : c < 127
  · have : ∀ c < 127, c ∈ sgV ↔ 32 ≤ c ∧ c ≤ 126 ∧ c ≠ 37 ∧ c ≠ 39 ∧ c ≠ 59 := by decide +kernel
    exact this c h
  · have : ∀ c ∈ sgV, c < 127 := by decide +kernel
    exact ⟨fun z => absurd (this c z) h, fun z => absurd (show c < 127 by omega) h⟩
theorem lt1 {a b : Nat} : (([a] : List Nat) < [b]) ↔ a < b := by
  rw [List.cons_lt_cons_iff]
  simp
theorem xs_ne {xs : List Sg} {p q : Addr} {m : Mp} {k : K3} (h1 : RL m p (wD xs)) (h2 : RL m q []) (h : k (.bl (!xs.isEmpty)) m) : fNe (.ref p) (.ref q) m k := by
  refine ⟨.list (xs.map fun w => PyData.str (SX.S w)), .list [], .lst h1 dps_strs, .lst h2 .nil, peq_r (by show 0 + 1 ≤ 64; decide), ?_⟩
  have e : PyData.eqv (.list (xs.map fun w => PyData.str (SX.S w))) (.list []) = xs.isEmpty := by cases xs <;> rfl
  rw [e]; exact h
def badc (c : Nat) : Prop := c < 32 ∨ 126 < c ∨ c = 39 ∨ c = 59 ∨ (36 < c ∧ c < 38)
theorem badc_V {c : Nat} : c ∈ sgV ↔ ¬ badc c := by rw [mem_V]; unfold badc; omega
theorem quot_in {c : Nat} : c ∈ (Str.ofString "';").cps.toList ↔ c = 39 ∨ c = 59 := by
  have : (Str.ofString "';").cps.toList = [39, 59] := by decide +kernel
  rw [this]; simp
def dueL (w : Sg) : List D := match valK w with
  | some v => [v]
  | none => []
theorem dueL_n {w : Sg} (h : valK w = none) : dueL w = [] := by unfold dueL; rw [h]
theorem dueL_s {w : Sg} {v : D} (h : valK w = some v) : dueL w = [v] := by unfold dueL; rw [h]
theorem valK_q {w : Sg} (h : quotK w) : valK w = if okT (midK w) then some (dS (midK w)) else none := by unfold valK; rw [if_pos h]
theorem valK_n {w : Sg} (h : ¬ quotK w) (hn : numK w = none) : valK w = none := by unfold valK; rw [if_neg h, hn]
theorem valK_s {w : Sg} {n : Int} (h : ¬ quotK w) (hn : numK w = some n) : valK w = if okI n then some (.int n) else none := by unfold valK; rw [if_neg h, hn]
theorem okI_figs {w : Sg} : okI (intK w) ↔ ((NumText.digitsVal (figs w) : Nat) : Int) ≤ 1000000000000 := by
  unfold okI intK figs
  split <;> omega
def sp_worth : FSpec where
  al := Sg
  lev := fun _ => 0
  pre := fun (a : Sg) ds m => ds = [dS a] ∧ a ≠ [] ∧ a.length ≤ 600
  post := fun (a : Sg) m d m' => ∃ p, d = .ref p ∧ m' p = some (.lst (dueL a)) ∧ Fr [] m m'
  exc := fun _ _ _ _ => False
theorem b_worth (T : Tb) : BodyOk (t_law_worth T) N_law_worth sp_worth 1 := by
  intro L (w : Sg) ds m k x hl hk hx hp hq he
  dsimp only [sp_worth] at hl hp hq he
  obtain ⟨rfl, hne, hw⟩ := hp
  have hml := mid_len (w := w)
  have hfl : (figs w).length ≤ w.length := by
    unfold figs
    split
    · rw [List.length_drop]; omega
    · exact Nat.le_refl _
  obtain ⟨c, l, hcl⟩ := List.exists_cons_of_ne_nil hne
  have hhd : w.head? = some c := by rw [hcl]; rfl
  have ht1 : w.take 1 = [c] := by rw [hcl]; rfl
  obtain ⟨e, hel⟩ : ∃ e, w.getLast? = some e := ⟨_, List.getLast?_eq_some_getLast hne⟩
  unfold t_law_worth
  refine x_seqJ (fun s m' => s = [some (dS w), none, none, none, none] ∧ m' = m ∧ ¬ quotK w) ?_ ?_
  rotate_left
  · intro n hn
    have no : ¬ quotK w → n [some (dS w), none, none, none, none] m := fun h => hn _ _ ⟨rfl, rfl, h⟩
    walk_at "x"
    refine fx_lenW (by omega) ?_
    walk_at "x"
    refine x_iD (fun h => ?_) (fun h => ?_)
    rotate_left
    · walk_at "x"
      exact no fun z => h (by have := z.1; omega)
    walk_at "x"
    refine fx_ixW (by omega) (atI_hd hhd) ?_
    walk_at "x"
    rw [dsg (k := 39) (z := Str.ofString "'") rfl]
    by_cases h39 : c = 39
    rotate_left
    · rw [decF h39]
      walk_at "x"
      exact no fun z => h39 (by have := z.2.1; rw [hhd] at this; exact Option.some.inj this)
    rw [decT h39]
    walk_at "x"
    refine fx_ixW (by omega) (atI_lastG hel) ?_
    walk_at "x"
    rw [dsg (k := 39) (z := Str.ofString "'") rfl]
    by_cases h40 : e = 39
    rotate_left
    · rw [decF h40]
      walk_at "x"
      exact no fun z => h40 (by have := z.2.2; rw [hel] at this; exact Option.some.inj this)
    rw [decT h40]
    have hqk : quotK w := ⟨by omega, by rw [hhd, h39], by rw [hel, h40]⟩
    have hvk := valK_q hqk
    walk_at "x"
    refine xf_slS' (by show w.length ≤ _; omega) ?_
    rw [cut_mid (by omega), show (w.drop 1).take (w.length - 2) = midK w from rfl]
    generalize midK w = t at *
    walk_at "x"
    rename_i q hq0
    refine ⟨fun i m5 => ∃ xs : List Sg, m5 q = some (.lst (wD xs)) ∧ xs.length ≤ i ∧ (xs = [] ↔ ∀ c ∈ t.take i, c ∈ sgV) ∧ Fr [] m m5, ⟨[], mset_same, Nat.le_refl _, ⟨(fun _ c h => by cases h), fun _ => rfl⟩, by walk_at "fr"⟩, (fun _ _ _ _ => True.intro), ?_, ?_⟩
    · rintro i d m5 hd ⟨xs, g1, g2, g3, g4⟩
      obtain ⟨b, hb, rfl⟩ := signsW hd
      have hi := (List.getElem?_eq_some_iff.mp hb).1
      have stay : b ∈ sgV → (∃ xs : List Sg, m5 q = some (.lst (wD xs)) ∧ xs.length ≤ i + 1 ∧ (xs = [] ↔ ∀ c ∈ t.take (i + 1), c ∈ sgV) ∧ Fr [] m m5) := fun hv => ⟨xs, g1, by omega, g3.trans ⟨fun h u hu => by
        rw [take_snoc hb] at hu
        rcases List.mem_append.mp hu with hu | hu
        · exact h u hu
        · rw [List.mem_singleton.mp hu]; exact hv, fun h u hu => h u (by rw [take_snoc hb]; exact List.mem_append_left _ hu)⟩, g4⟩
      have add : b ∉ sgV → (∃ acc, m5 q = some (.lst acc) ∧ acc.length < sizeLine ∧ ∃ xs : List Sg, (mset m5 q (.lst (acc ++ [dS [b]]))) q = some (.lst (wD xs)) ∧ xs.length ≤ i + 1 ∧ (xs = [] ↔ ∀ c ∈ t.take (i + 1), c ∈ sgV) ∧ Fr [] m (mset m5 q (.lst (acc ++ [dS [b]])))) := fun hv =>
        ⟨wD xs, g1, by rw [List.length_map]; exact Nat.lt_of_lt_of_le (show xs.length < 100000 by omega) (by decide), xs ++ [[b]], by rw [wD_app]; exact mset_same, by simp; omega, ⟨fun h => by simp at h, fun h => absurd (h b (by rw [take_snoc hb]; exact List.mem_append_right _ List.mem_cons_self)) hv⟩, by walk_at "fr"⟩
      walk_at "x"
      rw [show decide ((SX.S [b]).cps.toList < (Str.ofString " ").cps.toList) = decide (b < 32) from decide_eq_decide.mpr lt1]
      by_cases b1 : b < 32
      · rw [decT b1]
        walk_at "x"
        exact add (by rw [badc_V]; unfold badc; omega)
      rw [decF b1]
      walk_at "x"
      refine xf_gtS ?_
      rw [show decide ((Str.ofString "~").cps.toList < (SX.S [b]).cps.toList) = decide (126 < b) from decide_eq_decide.mpr lt1]
      by_cases b2 : 126 < b
      · rw [decT b2]
        walk_at "x"
        exact add (by rw [badc_V]; unfold badc; omega)
      rw [decF b2]
      walk_at "x"
      refine xf_inS ?_
      rw [show decide (b ∈ (Str.ofString "';").cps.toList) = decide (b = 39 ∨ b = 59) from decide_eq_decide.mpr quot_in]
      by_cases b3 : b = 39 ∨ b = 59
      · rw [decT b3]
        walk_at "x"
        exact add (by rw [badc_V]; unfold badc; omega)
      rw [decF b3]
      walk_at "x"
      by_cases b4 : 36 < b
      rotate_left
      · rw [decF (show ¬ (36 : Int) < (b : Int) by omega)]
        walk_at "x"
        exact stay (by rw [badc_V]; unfold badc; omega)
      rw [decT (show (36 : Int) < (b : Int) by omega)]
      walk_at "x"
      by_cases b5 : b < 38
      · rw [decT (show (b : Int) < (38 : Int) by omega)]
        walk_at "x"
        exact add (by rw [badc_V]; unfold badc; omega)
      · rw [decF (show ¬ (b : Int) < (38 : Int) by omega)]
        walk_at "x"
        exact stay (by rw [badc_V]; unfold badc; omega)
    · rintro m5 ⟨xs, g1, g2, g3, g4⟩
      rw [signs_len, List.take_length] at g3
      walk_at "x"
      rename_i a1 ha1 a2 ha2 a3 ha3
      have n12 : a1 ≠ a2 := by walk_at "ne"
      have n13 : a1 ≠ a3 := by walk_at "ne"
      have n23 : a2 ≠ a3 := by walk_at "ne"
      have e1 : (mset (mset (mset m5 a1 (.lst [dS t])) a2 (.lst [])) a3 (.lst [.ref a1, .ref a2])) a1 = some (.lst [dS t]) := by walk_at "hp"
      have e2 : (mset (mset (mset m5 a1 (.lst [dS t])) a2 (.lst [])) a3 (.lst [.ref a1, .ref a2])) a2 = some (.lst []) := by walk_at "hp"
      have e3 : (mset (mset (mset m5 a1 (.lst [dS t])) a2 (.lst [])) a3 (.lst [.ref a1, .ref a2])) a3 = some (.lst [.ref a1, .ref a2]) := mset_same
      have eq : (mset (mset (mset m5 a1 (.lst [dS t])) a2 (.lst [])) a3 (.lst [.ref a1, .ref a2])) q = some (.lst (wD xs)) := by walk_at "hp"
      have F : Fr [] m (mset (mset (mset m5 a1 (.lst [dS t])) a2 (.lst [])) a3 (.lst [.ref a1, .ref a2])) := by walk_at "fr"
      generalize mset (mset (mset m5 a1 (.lst [dS t])) a2 (.lst [])) a3 (.lst [.ref a1, .ref a2]) = m6 at *
      refine fx_lenW (by omega) ?_
      walk_at "x"
      by_cases h20 : 20 < t.length
      · rw [decT (show (20 : Int) < (t.length : Int) by omega)]
        walk_at "x"
        refine hq _ _ ⟨a2, rfl, ?_, F⟩
        rw [dueL_n (by rw [hvk, if_neg (fun z => by have := z.1; omega)])]
        exact e2
      rw [decF (show ¬ (20 : Int) < (t.length : Int) by omega)]
      walk_at "x"
      rename_i z hz
      have F7 : Fr [] m (mset m6 z (.lst [])) := by walk_at "fr"
      have e17 : (mset m6 z (.lst [])) a1 = some (.lst [dS t]) := (mset_ne (ne_none e1 hz)).trans e1
      have e27 : (mset m6 z (.lst [])) a2 = some (.lst []) := (mset_ne (ne_none e2 hz)).trans e2
      have e37 : (mset m6 z (.lst [])) a3 = some (.lst [.ref a1, .ref a2]) := (mset_ne (ne_none e3 hz)).trans e3
      refine xs_ne (xs := xs) (.inl ((mset_ne (ne_none eq hz)).trans eq)) (.inl mset_same) ?_
      by_cases hx0 : xs = []
      · rw [show (!xs.isEmpty) = false by rw [hx0]; rfl]
        walk_at "x"
        refine hq _ _ ⟨a1, rfl, ?_, F7⟩
        rw [dueL_s (by rw [hvk, if_pos (show okT t from ⟨by omega, g3.mp hx0⟩)])]
        exact e17
      · rw [show (!xs.isEmpty) = true by cases xs with
          | nil => exact absurd rfl hx0
          | cons _ _ => rfl]
        walk_at "x"
        refine hq _ _ ⟨a2, rfl, ?_, F7⟩
        rw [dueL_n (by rw [hvk, if_neg (fun z => hx0 (g3.mpr z.2))])]
        exact e27
  rintro s m1 ⟨rfl, rfl, hnq⟩
  walk_at "x"
  refine fx_ixW (by omega) (atI_hd hhd) ?_
  walk_at "x"
  rw [dsg (k := 45) (z := Str.ofString "-") rfl]
  have hfg : figs w = if c = 45 then w.drop 1 else w := by
    unfold figs
    rw [ht1]
    by_cases h : c = 45
    · rw [if_pos (by rw [h]), if_pos h]
    · rw [if_neg (fun z => h (by injection z)), if_neg h]
  refine xf_slS' (by show w.length ≤ _; omega) ?_
  rw [show cutS (SX.S w) (some (if decide (c = 45) = true then 1 else 0)) none = SX.S (figs w) by
    rw [hfg]
    by_cases h : c = 45
    · rw [decT h, if_pos rfl, if_pos h, cut_rest]
    · rw [decF h, if_neg (by decide), if_neg h, cut_all]]
  have hnone : ∀ (z : Addr) (mz : Mp), numK w = none → mz z = some (.lst []) → Fr [] m1 mz → k (.ref z) mz := fun z mz h1 h2 h3 => hq _ _ ⟨z, rfl, by rw [dueL_n (valK_n hnq h1)]; exact h2, h3⟩
  have nk1 : figs w = [] → numK w = none := fun h => if_pos (.inl (by rw [h]; decide))
  walk_at "x"
  rw [show decide (SX.S (figs w) = Str.ofString "") = decide (figs w = []) from decide_eq_decide.mpr S_eq]
  by_cases f0 : figs w = []
  · rw [decT f0]
    walk_at "x"
    exact hnone _ _ (nk1 f0) mset_same (by walk_at "fr")
  rw [decF f0]
  obtain ⟨fc, fl, hfc⟩ := List.exists_cons_of_ne_nil f0
  have fhd : (figs w).head? = some fc := by rw [hfc]; rfl
  walk_at "x"
  rename_i q hq0
  refine ⟨fun i m5 => ∃ xs : List Sg, m5 q = some (.lst (wD xs)) ∧ xs.length ≤ i ∧ (xs = [] ↔ ∀ c ∈ (figs w).take i, c ∈ sgF) ∧ Fr [] m1 m5, ⟨[], mset_same, Nat.le_refl _, ⟨(fun _ c h => by cases h), fun _ => rfl⟩, by walk_at "fr"⟩, (fun _ _ _ _ => True.intro), ?_, ?_⟩
  · rintro i d m5 hd ⟨xs, g1, g2, g3, g4⟩
    obtain ⟨b, hb, rfl⟩ := signsW hd
    have hi := (List.getElem?_eq_some_iff.mp hb).1
    walk_at "x"
    refine xf_ninS ?_
    by_cases hv : b ∈ sgF
    · rw [decT hv]
      walk_at "x"
      exact ⟨xs, g1, by omega, g3.trans ⟨fun h u hu => by
        rw [take_snoc hb] at hu
        rcases List.mem_append.mp hu with hu | hu
        · exact h u hu
        · rw [List.mem_singleton.mp hu]; exact hv, fun h u hu => h u (by rw [take_snoc hb]; exact List.mem_append_left _ hu)⟩, g4⟩
    · rw [decF hv]
      walk_at "x"
      exact ⟨wD xs, g1, by rw [List.length_map]; exact Nat.lt_of_lt_of_le (show xs.length < 100000 by omega) (by decide), xs ++ [[b]], by rw [wD_app]; exact mset_same, by simp; omega, ⟨fun h => by simp at h, fun h => absurd (h b (by rw [take_snoc hb]; exact List.mem_append_right _ List.mem_cons_self)) hv⟩, by walk_at "fr"⟩
  rintro m5 ⟨xs, g1, g2, g3, g4⟩
  rw [signs_len, List.take_length] at g3
  walk_at "x"
  rename_i z hz
  refine xs_ne (xs := xs) (.inl ((mset_ne (ne_none g1 hz)).trans g1)) (.inl mset_same) ?_
  have F6 : Fr [] m1 (mset m5 z (.lst [])) := by walk_at "fr"
  generalize mset m5 z (.lst []) = m6 at *
  by_cases hx0 : xs = []
  rotate_left
  · rw [show (!xs.isEmpty) = true by cases xs with
      | nil => exact absurd rfl hx0
      | cons _ _ => rfl]
    walk_at "x"
    refine hnone _ _ ?_ mset_same (by walk_at "fr")
    unfold numK
    rw [if_neg (fun h => hx0 (g3.mpr h))]
    split <;> rfl
  rw [show (!xs.isEmpty) = false by rw [hx0]; rfl]
  have hdig := g3.mp hx0
  have hint := int_of f0 hdig (by omega)
  have hintf : PySem.intText? (SX.S (figs w)) = some ((NumText.digitsVal (figs w) : Nat) : Int) := PySem.intText_digits (fun c hc => mem_F.mp (hdig c hc)) f0 (by rw [str_len]; show (figs w).length ≤ 4300; omega)
  walk_at "x"
  refine fx_ixW (by omega) (atI_hd fhd) ?_
  walk_at "x"
  rw [dsg (k := 48) (z := Str.ofString "0") rfl]
  by_cases h48 : fc = 48
  · rw [decT h48]
    walk_at "x"
    rw [show decide (SX.S w = Str.ofString "0") = decide (w = [48]) from decide_eq_decide.mpr S_eq]
    by_cases hw48 : w = [48]
    rotate_left
    · rw [decF hw48]
      walk_at "x"
      exact hnone _ _ (if_pos (.inr (.inr ⟨by rw [fhd, h48], hw48⟩))) mset_same (by walk_at "fr")
    rw [decT hw48]
    walk_at "x"
    have hc8 : ¬ (fc = 48 ∧ w ≠ [48]) := fun z => z.2 hw48
    refine fx_lenW (by omega) ?_
    walk_at "x"
    by_cases h13 : 13 < (figs w).length
    · rw [decT (show (13 : Int) < ((figs w).length : Int) by omega)]
      walk_at "x"
      exact hnone _ _ (if_pos (.inr (.inl h13))) mset_same (by walk_at "fr")
    rw [decF (show ¬ (13 : Int) < ((figs w).length : Int) by omega)]
    walk_at "x"
    refine xf_intS hintf (by rw [str_len]; show (figs w).length ≤ 640; omega) ?_
    walk_at "x"
    have hnk : numK w = some (intK w) := by
      unfold numK
      rw [if_neg (fun z => by
        rcases z with z | z | z
        · rw [hfc] at z; simp at z
        · exact h13 z
        · exact hc8 (by rw [fhd] at z; exact ⟨Option.some.inj z.1, z.2⟩)), if_pos hdig]
    have hvk := valK_s hnq hnk
    have hok := okI_figs (w := w)
    rw [show (10 : Int) ^ Int.toNat 12 = 1000000000000 by decide]
    by_cases hbg : (1000000000000 : Int) < (NumText.digitsVal (figs w) : Nat)
    · rw [decT hbg]
      walk_at "x"
      refine hq _ _ ⟨_, rfl, ?_, by walk_at "fr"⟩
      rw [dueL_n (by rw [hvk, if_neg (fun z => by have := hok.mp z; omega)])]
      exact mset_same
    · rw [decF hbg]
      walk_at "x"
      refine xf_intS hint (by rw [str_len]; show w.length ≤ 640; omega) ?_
      walk_at "x"
      refine hq _ _ ⟨_, rfl, ?_, by walk_at "fr"⟩
      rw [dueL_s (by rw [hvk, if_pos (hok.mpr (by omega))])]
      exact mset_same
  · rw [decF h48]
    walk_at "x"
    have hc8 : ¬ (fc = 48 ∧ w ≠ [48]) := fun z => h48 z.1
    refine fx_lenW (by omega) ?_
    walk_at "x"
    by_cases h13 : 13 < (figs w).length
    · rw [decT (show (13 : Int) < ((figs w).length : Int) by omega)]
      walk_at "x"
      exact hnone _ _ (if_pos (.inr (.inl h13))) mset_same (by walk_at "fr")
    rw [decF (show ¬ (13 : Int) < ((figs w).length : Int) by omega)]
    walk_at "x"
    refine xf_intS hintf (by rw [str_len]; show (figs w).length ≤ 640; omega) ?_
    walk_at "x"
    have hnk : numK w = some (intK w) := by
      unfold numK
      rw [if_neg (fun z => by
        rcases z with z | z | z
        · rw [hfc] at z; simp at z
        · exact h13 z
        · exact hc8 (by rw [fhd] at z; exact ⟨Option.some.inj z.1, z.2⟩)), if_pos hdig]
    have hvk := valK_s hnq hnk
    have hok := okI_figs (w := w)
    rw [show (10 : Int) ^ Int.toNat 12 = 1000000000000 by decide]
    by_cases hbg : (1000000000000 : Int) < (NumText.digitsVal (figs w) : Nat)
    · rw [decT hbg]
      walk_at "x"
      refine hq _ _ ⟨_, rfl, ?_, by walk_at "fr"⟩
      rw [dueL_n (by rw [hvk, if_neg (fun z => by have := hok.mp z; omega)])]
      exact mset_same
    · rw [decF hbg]
      walk_at "x"
      refine xf_intS hint (by rw [str_len]; show w.length ≤ 640; omega) ?_
      walk_at "x"
      refine hq _ _ ⟨_, rfl, ?_, by walk_at "fr"⟩
      rw [dueL_s (by rw [hvk, if_pos (hok.mpr (by omega))])]
      exact mset_same
theorem c_worth {T : Tb} {L : Nat} {m : Mp} {k : K3} {x : X3} {w : Sg} (hT : T i_law_worth sp_worth) (hL : 0 < L) (h0 : w ≠ []) (h : w.length ≤ 600)
    (hk : ∀ p m', m' p = some (.lst (dueL w)) → Fr [] m m' → k (.ref p) m') : callS T L i_law_worth [dS w] m k x := by
  refine x_call hT w hL ⟨rfl, h0, h⟩ ?_ (fun _ _ h => h.elim)
  rintro _ m' ⟨p, rfl, a, b⟩
  exact hk p m' a b
/-! whether refused so -/
def sp_refd : FSpec where
  al := Addr
  lev := fun _ => 0
  pre := fun (a : Addr) ds m => ds = [.ref a] ∧ m a = some (.exc "NoQuestion" none)
  post := fun a m d m' => d = .bl true ∧ m' = m
  exc := fun _ _ _ _ => False
theorem b_refd (T : Tb) : BodyOk (t_law_refused T) N_law_refused sp_refd 1 := by
  intro L (a : Addr) ds m k x hl hk hx hp hq he
  dsimp only [sp_refd] at hl hp hq he
  obtain ⟨rfl, h1⟩ := hp
  unfold t_law_refused
  walk_at "x"
  refine xf_isEF h1 (by decide) ?_
  walk_at "x"
  refine xf_isET h1 (by decide) ?_
  walk_at "x"
  refine xf_isET h1 (by decide) ?_
  exact hq _ _ ⟨rfl, rfl⟩
theorem c_refd {T : Tb} {L : Nat} {m : Mp} {k : K3} {x : X3} {a : Addr} (hT : T i_law_refused sp_refd) (hL : 0 < L) (h1 : m a = some (.exc "NoQuestion" none)) (hk : k (.bl true) m) : callS T L i_law_refused [.ref a] m k x := by
  refine x_call hT a hL ⟨rfl, h1⟩ ?_ (fun _ _ h => h.elim)
  rintro _ m' ⟨rfl, rfl⟩
  exact hk
/-! both ways alike: words -/
theorem dep0 : ∀ {ws : List Sg}, PyData.depthAll (ws.map fun w => PyData.str (SX.S w)) = 0
  | [] => rfl
  | a :: l => by
    show max (PyData.str (SX.S a)).depth (PyData.depthAll (l.map fun w => PyData.str (SX.S w))) = 0
    rw [dep0]; rfl
theorem eqv0 : ∀ {ws : List Sg}, PyData.eqvAll (ws.map fun w => PyData.str (SX.S w)) (ws.map fun w => PyData.str (SX.S w)) = true
  | [] => rfl
  | a :: l => by
    show (PyData.eqv (.str (SX.S a)) (.str (SX.S a)) && PyData.eqvAll (l.map fun w => PyData.str (SX.S w)) (l.map fun w => PyData.str (SX.S w))) = true
    rw [eqv0, eqv_str, decT rfl]; rfl
theorem strs_eq {m : Mp} {p q : Addr} {ws : List Sg} (h1 : RL m p (wD ws)) (h2 : RL m q (wD ws)) : ∃ d, DP m (.ref p) d ∧ DP m (.ref q) d ∧ PEq d d ∧ PyData.eqv d d = true := by
  refine ⟨.list (ws.map fun w => PyData.str (SX.S w)), .lst h1 dps_strs, .lst h2 dps_strs, peq_l ?_, ?_⟩
  · show PyData.depthAll _ + 1 ≤ 64
    rw [dep0]; decide
  · simp only [PyData.eqv]
    exact eqv0
theorem xf_neWW {m : Mp} {k : K3} {p q : Addr} {ws : List Sg} (h1 : RL m p (wD ws)) (h2 : RL m q (wD ws)) (h : k (.bl false) m) : fNe (.ref p) (.ref q) m k := by
  obtain ⟨d, a, b, c, e⟩ := strs_eq h1 h2
  exact ⟨d, d, a, b, c, by rw [e]; exact h⟩
theorem xf_eqWW {m : Mp} {k : K3} {p q : Addr} {ws : List Sg} (h1 : RL m p (wD ws)) (h2 : RL m q (wD ws)) (h : k (.bl true) m) : fEq (.ref p) (.ref q) m k := by
  obtain ⟨d, a, b, c, e⟩ := strs_eq h1 h2
  exact ⟨d, d, a, b, c, by rw [e]; exact h⟩
theorem stepK_len {s s' : Wk} {c : Nat} (h : stepK s c = some s') : s'.done.length ≤ s.done.length + 1 := by
  unfold stepK at h
  split at h
  · cases h; show (s.done ++ [s.cur]).length ≤ _; simp
  · split at h
    · cases h
    · split at h <;> (cases h; exact Nat.le_succ _)
theorem runK_len : ∀ {l : Sg} {s s' : Wk}, runK s l = some s' → s'.done.length ≤ s.done.length + l.length
  | [], s, s', h => by cases h; exact Nat.le_refl _
  | c :: l, s, s', h => by
    have h : (stepK s c).bind (fun s' => runK s' l) = some s' := h
    cases e : stepK s c with
    | none => rw [e] at h; cases h
    | some s2 =>
      rw [e] at h
      have := runK_len (show runK s2 l = some s' from h)
      have := stepK_len e
      rw [List.length_cons]; omega
theorem wordsK_len {w : Sg} {ws : List Sg} (h : wordsK w = some ws) : ws.length ≤ w.length + 1 := by
  unfold wordsK at h
  cases e : runK ⟨[], [], false, false⟩ w with
  | none => rw [e] at h; cases h
  | some s =>
    rw [e] at h
    have h : endK s = some ws := h
    have := runK_len e
    unfold endK at h
    split at h
    · cases h
    · cases h
      rw [List.length_append, List.length_singleton]
      have : ([] : List Sg).length = 0 := rfl
      dsimp only at *
      omega
def sp_wright : FSpec where
  al := Sg
  lev := fun _ => 2
  pre := fun (a : Sg) ds m => ds = [dS a] ∧ a.length ≤ 1000
  post := fun (a : Sg) m d m' => d = .bl true ∧ Fr [] m m'
  exc := fun _ _ _ _ => False
theorem b_wright (T : Tb) (hP : T i_law_parted sp_parted) (hW : T i_words_in sp_words) (hR : T i_law_refused sp_refd) : BodyOk (t_law_words_right T) N_law_words_right sp_wright 1 := by
  intro L (w : Sg) ds m k x hl hk hx hp hq he
  dsimp only [sp_wright] at hl hp hq he
  obtain ⟨rfl, hw⟩ := hp
  unfold t_law_words_right
  walk_at "x"
  refine c_parted hP (by omega) hw (fun m1 h1 f1 => ?_) (fun ws dp m1 h1 hdp f1 => ?_)
  · walk_at "x"
    refine x_seqN ?_
    walk_at "x"
    refine c_words hW (by omega) hw (fun ws p m2 h2 _ _ _ => ?_) (fun m2 _ f2 => ?_)
    · rw [h1] at h2; cases h2
    have F2 := Fr.sub f2 (fun a ha => nomatch ha) f1
    refine x_dsYA (show subX "NoQuestion" "VaultError" = true by decide) (fun ea hea => ?_)
    have hE : (mset m2 ea (.exc "NoQuestion" none)) ea = some (.exc "NoQuestion" none) := mset_same
    have fE : Fr [] m (mset m2 ea (.exc "NoQuestion" none)) := Fr.new F2 hea
    generalize mset m2 ea (.exc "NoQuestion" none) = m3 at *
    walk_at "x"
    refine c_refd hR (by omega) hE ?_
    exact hq _ _ ⟨rfl, fE⟩
  · walk_at "x"
    refine x_seqN ?_
    walk_at "x"
    refine c_words hW (by omega) hw (fun ws' p m2 h2 np hp' f2 => ?_) (fun m2 h2 f2 => ?_)
    rotate_left
    · rw [h1] at h2; cases h2
    rw [h1] at h2
    cases h2
    have dpp : dp ≠ p := ne_none hdp np
    have hdp2 := f2.at ni_nil hdp
    have F2 := Fr.sub f2 (fun a ha => nomatch ha) f1
    have pm : m p = none := (Fr.gone f1 np).resolve_left ni_nil
    have hpl := wordsK_len h1
    walk_at "x"
    refine xf_isiT (n := "list") (TyD.lst (.inl hp')) (by decide) ?_
    walk_at "x"
    refine xf_neWW (.inl hp') (.inl hdp2) ?_
    walk_at "x"
    have hdp3 := (mset_ne dpp (o := .lst (wD ws ++ [.str (Str.ofString "a")]))).trans hdp2
    have F3 : Fr [] m (mset m2 p (.lst (wD ws ++ [.str (Str.ofString "a")]))) := by walk_at "fr"
    refine c_words hW (by omega) hw (fun ws' p' m4 h2 np' hp4 f4 => ?_) (fun m2 h2 f2 => ?_)
    rotate_left
    · rw [h1] at h2; cases h2
    rw [h1] at h2
    cases h2
    walk_at "x"
    refine xf_eqWW (.inl hp4) (.inl (f4.at ni_nil hdp3)) ?_
    exact hq _ _ ⟨rfl, Fr.sub f4 (fun a ha => nomatch ha) F3⟩
theorem c_wright {T : Tb} {L : Nat} {m : Mp} {k : K3} {x : X3} {w : Sg} (hT : T i_law_words_right sp_wright) (hL : 2 < L) (h : w.length ≤ 1000) (hk : ∀ m', Fr [] m m' → k (.bl true) m') : callS T L i_law_words_right [dS w] m k x := by
  refine x_call hT w hL ⟨rfl, h⟩ ?_ (fun _ _ h => h.elim)
  rintro _ m' ⟨rfl, a⟩
  exact hk m' a

/-! k65: both ways alike: values -/
theorem valK_k {w : Sg} {v : D} (h : valK w = some v) : (∃ n, v = .int n) ∨ ∃ t, v = dS t := by
  unfold valK at h
  split at h
  · split at h
    · cases h; exact .inr ⟨_, rfl⟩
    · cases h
  · split at h
    · split at h
      · cases h; exact .inl ⟨_, rfl⟩
      · cases h
    · cases h
theorem xf_eq0 {v : D} {l : List D} {d : PyData} {m : Mp} {k : K3} {p q : Addr} (hv : DP m v d) (hl : l = [] ∨ l = [v]) (h1 : RL m p l) (h2 : RL m q []) (h : k (.bl l.isEmpty) m) : fEq (.ref p) (.ref q) m k := by
  rcases hl with rfl | rfl
  · exact ⟨.list [], .list [], .lst h1 .nil, .lst h2 .nil, peq_r (by show 0 + 1 ≤ 64; decide), h⟩
  · exact ⟨.list [d], .list [], .lst h1 (.cons hv .nil), .lst h2 .nil, peq_r (by show 0 + 1 ≤ 64; decide), h⟩
theorem xf_neBB {a : Bool} {m : Mp} {k : K3} (h : k (.bl false) m) : fNe (.bl a) (.bl a) m k := ⟨.bool a, .bool a, .bl a, .bl a, peq_l (Nat.zero_le _), by cases a <;> exact h⟩
def sp_vright : FSpec where
  al := Sg
  lev := fun _ => 3
  pre := fun (a : Sg) ds m => ds = [dS a] ∧ a ≠ [] ∧ a.length ≤ 600
  post := fun (a : Sg) m d m' => d = .bl true ∧ Fr [] m m'
  exc := fun _ _ _ _ => False
theorem b_vright (T : Tb) (hP : T i_law_worth sp_worth) (hW : T i_value_of sp_valof) (hR : T i_law_refused sp_refd) : BodyOk (t_law_value_right T) N_law_value_right sp_vright 1 := by
  intro L (w : Sg) ds m k x hl hk hx hp hq he
  dsimp only [sp_vright] at hl hp hq he
  obtain ⟨rfl, h0, hw⟩ := hp
  unfold t_law_value_right
  walk_at "x"
  refine c_worth hP (by omega) h0 hw (fun p m1 h1 f1 => ?_)
  walk_at "x"
  refine x_seqN ?_
  walk_at "x"
  cases hv : valK w with
  | none =>
    rw [dueL_n hv] at h1
    refine c_valof hW (by omega) hw (fun d h2 => by rw [hv] at h2; cases h2) (fun _ => ?_)
    refine x_dsYA (show subX "NoQuestion" "VaultError" = true by decide) (fun ea hea => ?_)
    have hE : (mset m1 ea (.exc "NoQuestion" none)) ea = some (.exc "NoQuestion" none) := mset_same
    have fE : Fr [] m (mset m1 ea (.exc "NoQuestion" none)) := Fr.new f1 hea
    have h3 : (mset m1 ea (.exc "NoQuestion" none)) p = some (.lst []) := (mset_ne (ne_none h1 hea)).trans h1
    generalize mset m1 ea (.exc "NoQuestion" none) = m3 at *
    walk_at "x"
    rename_i z hz
    have hE' := (mset_ne (ne_none hE hz) (o := .lst [])).trans hE
    refine xf_eq0 (v := .non) (l := []) .non (.inl rfl) (.inl ((mset_ne (ne_none h3 hz)).trans h3)) (.inl mset_same) ?_
    walk_at "x"
    refine c_refd hR (by omega) hE' ?_
    exact hq _ _ ⟨rfl, by walk_at "fr"⟩
  | some v =>
    rw [dueL_s hv] at h1
    refine c_valof hW (by omega) hw (fun d h2 => ?_) (fun h2 => by rw [hv] at h2; cases h2)
    rw [hv] at h2
    cases h2
    rcases valK_k hv with ⟨n, rfl⟩ | ⟨t, rfl⟩
    · walk_at "x"
      rename_i z hz
      have h3 := (mset_ne (ne_none h1 hz) (o := .lst [])).trans h1
      refine xf_eq0 (v := .int n) (l := [.int n]) (.int n) (.inr rfl) (.inl h3) (.inl mset_same) ?_
      walk_at "x"
      refine xf_neBB ?_
      walk_at "x"
      rw [decT rfl]
      exact hq _ _ ⟨rfl, by walk_at "fr"⟩
    · walk_at "x"
      rename_i z hz
      have h3 := (mset_ne (ne_none h1 hz) (o := .lst [])).trans h1
      refine xf_eq0 (v := dS t) (l := [dS t]) (.str _) (.inr rfl) (.inl h3) (.inl mset_same) ?_
      walk_at "x"
      refine xf_neBB ?_
      walk_at "x"
      rw [decT rfl]
      exact hq _ _ ⟨rfl, by walk_at "fr"⟩
theorem c_vright {T : Tb} {L : Nat} {m : Mp} {k : K3} {x : X3} {w : Sg} (hT : T i_law_value_right sp_vright) (hL : 3 < L) (h0 : w ≠ []) (h : w.length ≤ 600) (hk : ∀ m', Fr [] m m' → k (.bl true) m') : callS T L i_law_value_right [dS w] m k x := by
  refine x_call hT w hL ⟨rfl, h0, h⟩ ?_ (fun _ _ h => h.elim)
  rintro _ m' ⟨rfl, a⟩
  exact hk m' a

/-! k65: the law's draws -/
theorem xf_neZ {m : Mp} {k : K3} {p q : Addr} {ns : List Int} (h1 : RL m p (ns.map D.int)) (h2 : RL m q []) (h : k (.bl (!ns.isEmpty)) m) : fNe (.ref p) (.ref q) m k := by
  refine ⟨.list (ns.map PyData.int), .list [], .lst h1 toPs_ints, .lst h2 .nil, peq_r (by show 0 + 1 ≤ 64; decide), ?_⟩
  have e : PyData.eqv (.list (ns.map PyData.int)) (.list []) = ns.isEmpty := by cases ns <;> rfl
  rw [e]; exact h
def HandV (row : List D) : Prop := ∃ c y w : Int, row = [.int c, .int y, .int w] ∧ 0 ≤ y ∧ y < 2147483700
structure HaIn where
  p : Addr
  ns : List Int
  c : Int
  i : Nat
def sp_hand : FSpec where
  al := HaIn
  lev := fun _ => 0
  pre := fun a ds m => ds = [.ref a.p, .int a.c, .int (a.i : Nat)] ∧ Scr m a.p (a.ns.map D.int) ∧ a.i ≤ 1000
  post := fun a m d m' => ∃ q row, d = .ref q ∧ m q = none ∧ m' q = some (.lst row) ∧ HandV row ∧ Fr [] m m'
  exc := fun _ _ _ _ => False
theorem b_hand (T : Tb) : BodyOk (t_law_hand T) N_law_hand sp_hand 3 := by
  intro L a ds m k x hl hk hx hp hq he
  dsimp only [sp_hand] at hl hp hq he
  obtain ⟨p, ns, c, i⟩ := a
  obtain ⟨rfl, hr, hi⟩ := hp
  dsimp only at *
  have hrl := hr.rl
  unfold t_law_hand
  walk_at "x"
  refine x_seqJ (fun s m' => ∃ way : Int, s = [some (.ref p), some (.int c), some (.int (i : Nat)), some (.int way)] ∧ Fr [] m m') ?_ ?_
  · rintro s m' ⟨way, rfl, f⟩
    have b1 := Int.emod_lt_of_pos c (show (0:Int) < 2147483629 by decide)
    have b2 := Int.emod_nonneg c (show (2147483629:Int) ≠ 0 by decide)
    walk_at "x"
    generalize c % 2147483629 = e at *
    walk_at "x"
    rename_i z hz
    have b3 := Int.emod_lt_of_pos ((e + 7919 * (i : Int) + 1) * 48271) (show (0:Int) < 2147483647 by decide)
    have b4 := Int.emod_nonneg ((e + 7919 * (i : Int) + 1) * 48271) (show (2147483647:Int) ≠ 0 by decide)
    exact hq _ _ ⟨z, _, rfl, (Fr.gone f hz).resolve_left ni_nil, mset_same, ⟨_, _, _, rfl, b4, by omega⟩, by walk_at "fr"⟩
  · intro n hn
    walk_at "x"
    rename_i z hz
    refine xf_neZ (ns := ns) (hr.new hz).rl (.inl mset_same) ?_
    have hr2 := (hr.new hz (o := .lst [])).rl
    have F : Fr [] m (mset m z (.lst [])) := by walk_at "fr"
    cases hns : ns.isEmpty with
    | true =>
      walk_at "x"
      exact hn _ _ ⟨0, rfl, F⟩
    | false =>
      walk_at "x"
      refine ⟨p, ns, rfl, hr2, ?_⟩
      walk_at "x"
      exact hn _ _ ⟨_, rfl, F⟩
theorem c_hand {T : Tb} {L : Nat} {m : Mp} {k : K3} {x : X3} {p : Addr} {ns : List Int} {c : Int} {i : Nat} (hT : T i_law_hand sp_hand) (hL : 0 < L) (h1 : Scr m p (ns.map D.int)) (h2 : i ≤ 1000)
    (hk : ∀ q row m', m q = none → m' q = some (.lst row) → HandV row → Fr [] m m' → k (.ref q) m') : callS T L i_law_hand [.ref p, .int c, .int i] m k x := by
  refine x_call hT ⟨p, ns, c, i⟩ hL ⟨rfl, h1, h2⟩ ?_ (fun _ _ h => h.elim)
  rintro _ m' ⟨q, row, rfl, a, b, c, e⟩
  exact hk q row m' a b c e
def sp_draw : FSpec where
  al := (Addr × List D) × Int
  lev := fun _ => 0
  pre := fun a ds m => ds = [.ref a.1.1, .int a.2] ∧ m a.1.1 = some (.lst a.1.2) ∧ HandV a.1.2 ∧ 0 < a.2 ∧ a.2 < 2 ^ 60
  post := fun a m d m' => ∃ r row', d = .int r ∧ 0 ≤ r ∧ r < a.2 ∧ m' a.1.1 = some (.lst row') ∧ HandV row' ∧ Fr [a.1.1] m m'
  exc := fun _ _ _ _ => False
theorem b_draw (T : Tb) : BodyOk (t_law_draw T) N_law_draw sp_draw 2 := by
  intro L a ds m k x hl hk hx hp hq he
  dsimp only [sp_draw] at hl hp hq he
  obtain ⟨⟨p, row⟩, n⟩ := a
  obtain ⟨rfl, h1, ⟨c, y, w, rfl, h2, h3⟩, h4, h5⟩ := hp
  dsimp only at *
  unfold t_law_draw
  walk_at "x"
  refine x_iD (fun h => ?_) (fun h => ?_)
  · walk_at "x"
    exact hq _ _ ⟨_, _, rfl, Int.emod_nonneg _ (by omega), Int.emod_lt_of_pos _ h4, by walk_at "hp", ⟨_, _, _, rfl, h2, h3⟩, by walk_at "fr"⟩
  · walk_at "x"
    have b1 := Int.emod_lt_of_pos (y * y) (show (0:Int) < 2147483629 by decide)
    have b2 := Int.emod_nonneg (y * y) (show (2147483629:Int) ≠ 0 by decide)
    generalize y * y % 2147483629 = e at *
    walk_at "x"
    exact hq _ _ ⟨_, _, rfl, Int.emod_nonneg _ (by omega), Int.emod_lt_of_pos _ h4, by walk_at "hp", ⟨_, _, _, rfl, by omega, by omega⟩, by walk_at "fr"⟩
theorem c_draw {T : Tb} {L : Nat} {m : Mp} {k : K3} {x : X3} {p : Addr} {row : List D} {n : Int} (hT : T i_law_draw sp_draw) (hL : 0 < L) (h1 : m p = some (.lst row)) (h2 : HandV row) (h3 : 0 < n) (h4 : n < 2 ^ 60)
    (hk : ∀ r row' m', 0 ≤ r → r < n → m' p = some (.lst row') → HandV row' → Fr [p] m m' → k (.int r) m') : callS T L i_law_draw [.ref p, .int n] m k x := by
  refine x_call hT ⟨(p, row), n⟩ hL ⟨rfl, h1, h2, h3, h4⟩ ?_ (fun _ _ h => h.elim)
  rintro d m' ⟨r, row', rfl, a, b, c, e, f⟩
  exact hk r row' m' a b c e f
/-! texts -/
def sp_text : FSpec where
  al := (Addr × List D) × Nat
  lev := fun _ => 1
  pre := fun a ds m => ds = [.ref a.1.1, .int (a.2 : Nat)] ∧ m a.1.1 = some (.lst a.1.2) ∧ HandV a.1.2 ∧ a.2 ≤ 100
  post := fun a m d m' => ∃ t row', d = dS t ∧ t.length ≤ a.2 ∧ m' a.1.1 = some (.lst row') ∧ HandV row' ∧ Fr [a.1.1] m m'
  exc := fun _ _ _ _ => False
theorem b_text (T : Tb) (hT : T i_law_draw sp_draw) : BodyOk (t_law_text T) N_law_text sp_text 2 := by
  intro L a ds m k x hl hk hx hp hq he
  dsimp only [sp_text] at hl hp hq he
  obtain ⟨⟨p, row⟩, n⟩ := a
  obtain ⟨rfl, h1, h2, h3⟩ := hp
  dsimp only at *
  unfold t_law_text
  walk_at "x"
  have hs : (Str.ofString "abcdefghijklmnopqrstuvwxyz ABCDEFGHIJKLMNOPQRSTUVWXYZ0123456789!\"#$&()*+,-./:<=>?\x40[\\]^_`{|}~").cps.toList.length = 92 := by decide +kernel
  generalize Str.ofString "abcdefghijklmnopqrstuvwxyz ABCDEFGHIJKLMNOPQRSTUVWXYZ0123456789!\"#$&()*+,-./:<=>?\x40[\\]^_`{|}~" = sg at *
  refine c_draw hT (by omega) h1 h2 (by omega) (by omega) (fun r row2 m2 i3 i4 i5 i6 i7 => ?_)
  obtain ⟨r, rfl⟩ : ∃ j : Nat, r = (j : Int) := ⟨r.toNat, by omega⟩
  walk_at "x"
  refine for3 (fun i s m5 => ∃ (t : Sg) (row5 : List D) (c4 : Option D), s = [some (.ref p), some (.int (n : Nat)), some (.str sg), some (dS t), c4] ∧ t.length = i ∧ m5 p = some (.lst row5) ∧ HandV row5 ∧ Fr [p] m m5) ⟨[], row2, _, rfl, rfl, i5, i6, i7⟩ (fun _ _ _ _ _ => True.intro) ?_ ?_
  · rintro i d s m5 hd ⟨t, row5, c4, rfl, t1, t2, t3, t4⟩
    have hi := (rngD_get hd).1
    walk_at "x"
    refine xf_lenS' (by omega) ?_
    rw [hs]
    walk_at "x"
    refine c_draw hT (by omega) t2 t3 (by decide) (by decide) (fun r2 row6 m6 j1 j2 j3 j4 j5 => ?_)
    refine fx_S (by omega) j1 (by rw [hs]; exact j2) (fun c hc _ => ?_)
    refine fx_addW (b := [c]) (by simp only [List.length_cons, List.length_nil]; omega) ?_
    walk_at "x"
    exact ⟨t ++ [c], row6, _, rfl, by rw [List.length_append, t1]; rfl, j3, j4, by walk_at "fr"⟩
  · rintro s m5 ⟨t, row5, c4, rfl, t1, t2, t3, t4⟩
    rw [rngD_length] at t1
    walk_at "x"
    exact hq _ _ ⟨t, row5, rfl, by omega, t2, t3, t4⟩
theorem c_text {T : Tb} {L n : Nat} {m : Mp} {k : K3} {x : X3} {p : Addr} {row : List D} (hT : T i_law_text sp_text) (hL : 1 < L) (h1 : m p = some (.lst row)) (h2 : HandV row) (h3 : n ≤ 100)
    (hk : ∀ t row' m', t.length ≤ n → m' p = some (.lst row') → HandV row' → Fr [p] m m' → k (dS t) m') : callS T L i_law_text [.ref p, .int n] m k x := by
  refine x_call hT ⟨(p, row), n⟩ hL ⟨rfl, h1, h2, h3⟩ ?_ (fun _ _ h => h.elim)
  rintro _ m' ⟨t, row', rfl, b, c, e, f⟩
  exact hk t row' m' b c e f
/-- a value, or a number -/
def ValV (d : D) : Prop := (∃ n, d = .int n ∧ -1000000000000 ≤ n ∧ n ≤ 1000000000000) ∨ ∃ t, d = dS t ∧ t.length ≤ 20
def sp_value : FSpec where
  al := Addr × List D
  lev := fun _ => 2
  pre := fun a ds m => ds = [.ref a.1] ∧ m a.1 = some (.lst a.2) ∧ HandV a.2
  post := fun a m d m' => ∃ row', ValV d ∧ m' a.1 = some (.lst row') ∧ HandV row' ∧ Fr [a.1] m m'
  exc := fun _ _ _ _ => False
theorem b_value (T : Tb) (hT : T i_law_draw sp_draw) (hX : T i_law_text sp_text) : BodyOk (t_law_value T) N_law_value sp_value 1 := by
  intro L a ds m k x hl hk hx hp hq he
  dsimp only [sp_value] at hl hp hq he
  obtain ⟨p, row⟩ := a
  obtain ⟨rfl, h1, h2⟩ := hp
  dsimp only at *
  unfold t_law_value
  walk_at "x"
  refine c_draw hT (by omega) h1 h2 (by decide) (by decide) (fun r row2 m2 i3 i4 i5 i6 i7 => ?_)
  walk_at "x"
  refine x_iD (fun h => ?_) (fun h4 => ?_)
  · walk_at "x"
    rw [show (10 : Int) ^ Int.toNat 12 = 1000000000000 by decide]
    walk_at "x"
    refine c_draw hT (by omega) i5 i6 (by decide) (by decide) (fun r3 row3 m3 l3 l4 l5 l6 l7 => ?_)
    walk_at "x"
    rw [show (10 : Int) ^ Int.toNat 12 = 1000000000000 by decide]
    exact hq _ _ ⟨row3, .inl ⟨_, rfl, by omega, by omega⟩, l5, l6, by walk_at "fr"⟩
  walk_at "x"
  refine x_iD (fun h => ?_) (fun h5 => ?_)
  · walk_at "x"
    rename_i z hz
    have hzp : z ≠ p := by walk_at "ne"
    refine c_draw hT (by omega) (by walk_at "hp") i6 (by decide) (by decide) (fun r3 row3 m3 l3 l4 l5 l6 l7 => ?_)
    walk_at "ix"; intro d hd _
    obtain ⟨n, rfl, hn⟩ : ∃ n : Nat, d = .int (n : Nat) ∧ n ≤ 20 := by
      rcases (show d = .int 3 ∨ d = .int 20 by simpa using hd) with rfl | rfl
      · exact ⟨3, rfl, by decide⟩
      · exact ⟨20, rfl, by decide⟩
    walk_at "x"
    refine c_text hX (by omega) l5 l6 (by omega) (fun t row4 m4 o1 o2 o3 o4 => ?_)
    exact hq _ _ ⟨row4, .inr ⟨t, rfl, by omega⟩, o2, o3, by walk_at "fr"⟩
  walk_at "x"
  refine x_iD (fun h => ?_) (fun h6 => ?_)
  · walk_at "x"
    rename_i z hz
    have hzp : z ≠ p := by walk_at "ne"
    refine c_draw hT (by omega) (by walk_at "hp") i6 (by decide) (by decide) (fun r3 row3 m3 l3 l4 l5 l6 l7 => ?_)
    walk_at "ix"; intro d hd _
    refine hq _ _ ⟨row3, .inr ?_, l5, l6, by walk_at "fr"⟩
    simp only [List.mem_cons, List.not_mem_nil, or_false] at hd
    rcases hd with rfl | rfl | rfl | rfl | rfl | rfl | rfl | rfl
    · exact ⟨[], rfl, by decide⟩
    · exact ⟨[97], rfl, by decide⟩
    · exact ⟨[98], rfl, by decide⟩
    · exact ⟨[97, 98], rfl, by decide⟩
    · exact ⟨[32], rfl, by decide⟩
    · exact ⟨[49], rfl, by decide⟩
    · exact ⟨[45, 49], rfl, by decide⟩
    · exact ⟨[126], rfl, by decide⟩
  walk_at "x"
  rename_i z hz
  have hzp : z ≠ p := by walk_at "ne"
  rw [show (10 : Int) ^ Int.toNat 12 = 1000000000000 by decide] at *
  refine c_draw hT (by omega) (by walk_at "hp") i6 (by decide) (by decide) (fun r3 row3 m3 l3 l4 l5 l6 l7 => ?_)
  walk_at "ix"; intro d hd _
  refine hq _ _ ⟨row3, .inl ?_, l5, l6, by walk_at "fr"⟩
  simp only [List.mem_cons, List.not_mem_nil, or_false] at hd
  rcases hd with rfl | rfl | rfl | rfl | rfl | rfl | rfl | rfl <;> exact ⟨_, rfl, by decide, by decide⟩
theorem c_value {T : Tb} {L : Nat} {m : Mp} {k : K3} {x : X3} {p : Addr} {row : List D} (hT : T i_law_value sp_value) (hL : 2 < L) (h1 : m p = some (.lst row)) (h2 : HandV row)
    (hk : ∀ d row' m', ValV d → m' p = some (.lst row') → HandV row' → Fr [p] m m' → k d m') : callS T L i_law_value [.ref p] m k x := by
  refine x_call hT (p, row) hL ⟨rfl, h1, h2⟩ ?_ (fun _ _ h => h.elim)
  rintro d m' ⟨row', a, b, c, e⟩
  exact hk d row' m' a b c e
def sp_piece : FSpec where
  al := Addr × List D
  lev := fun _ => 2
  pre := fun a ds m => ds = [.ref a.1] ∧ m a.1 = some (.lst a.2) ∧ HandV a.2
  post := fun a m d m' => ∃ t row', d = dS t ∧ t.length ≤ 8 ∧ m' a.1 = some (.lst row') ∧ HandV row' ∧ Fr [a.1] m m'
  exc := fun _ _ _ _ => False
theorem b_piece (T : Tb) (hT : T i_law_draw sp_draw) (hX : T i_law_text sp_text) : BodyOk (t_law_piece T) N_law_piece sp_piece 1 := by
  intro L a ds m k x hl hk hx hp hq he
  dsimp only [sp_piece] at hl hp hq he
  obtain ⟨p, row⟩ := a
  obtain ⟨rfl, h1, h2⟩ := hp
  dsimp only at *
  unfold t_law_piece
  walk_at "x"
  refine c_draw hT (by omega) h1 h2 (by decide) (by decide) (fun r row2 m2 i3 i4 i5 i6 i7 => ?_)
  walk_at "x"
  refine x_iD (fun h => ?_) (fun h4 => ?_)
  · walk_at "x"
    rename_i z hz
    have hzp : z ≠ p := by walk_at "ne"
    refine c_draw hT (by omega) (by walk_at "hp") i6 (by decide) (by decide) (fun r3 row3 m3 l3 l4 l5 l6 l7 => ?_)
    walk_at "ix"; intro d hd _
    have : ∃ t, d = dS t ∧ t.length ≤ 8 := by
      simp only [List.mem_cons, List.not_mem_nil, or_false] at hd
      rcases hd with rfl | rfl | rfl | rfl | rfl | rfl | rfl | rfl <;> exact ⟨(Str.ofString _).cps.toList, congrArg D.str S_of.symm, by decide +kernel⟩
    obtain ⟨t, e1, e2⟩ := this
    exact hq _ _ ⟨t, row3, e1, e2, l5, l6, by walk_at "fr"⟩
  walk_at "x"
  refine x_iD (fun h => ?_) (fun h5 => ?_)
  · walk_at "x"
    refine c_text (n := 6) hX (by omega) i5 i6 (by decide) (fun t row4 m4 o1 o2 o3 o4 => ?_)
    refine fx_addW (a := [39]) (by simp only [List.length_cons, List.length_nil]; omega) ?_
    walk_at "x"
    refine fx_addW (b := [39]) (by simp only [List.length_append, List.length_cons, List.length_nil]; omega) ?_
    exact hq _ _ ⟨_, row4, rfl, by simp only [List.length_append, List.length_cons, List.length_nil]; omega, o2, o3, by walk_at "fr"⟩
  walk_at "x"
  rename_i z hz
  have hzp : z ≠ p := by walk_at "ne"
  refine c_draw hT (by omega) (by walk_at "hp") i6 (by decide) (by decide) (fun r3 row3 m3 l3 l4 l5 l6 l7 => ?_)
  walk_at "ix"; intro d hd _
  have : ∃ t, d = dS t ∧ t.length ≤ 8 := by
    simp only [List.mem_cons, List.not_mem_nil, or_false] at hd
    rcases hd with rfl | rfl | rfl | rfl | rfl | rfl | rfl | rfl <;> exact ⟨(Str.ofString _).cps.toList, congrArg D.str S_of.symm, by decide +kernel⟩
  obtain ⟨t, e1, e2⟩ := this
  exact hq _ _ ⟨t, row3, e1, e2, l5, l6, by walk_at "fr"⟩
theorem c_piece {T : Tb} {L : Nat} {m : Mp} {k : K3} {x : X3} {p : Addr} {row : List D} (hT : T i_law_piece sp_piece) (hL : 2 < L) (h1 : m p = some (.lst row)) (h2 : HandV row)
    (hk : ∀ t row' m', t.length ≤ 8 → m' p = some (.lst row') → HandV row' → Fr [p] m m' → k (dS t) m') : callS T L i_law_piece [.ref p] m k x := by
  refine x_call hT (p, row) hL ⟨rfl, h1, h2⟩ ?_ (fun _ _ h => h.elim)
  rintro _ m' ⟨t, row', rfl, a, b, c, e⟩
  exact hk t row' m' a b c e

/-! k65: the law -/
theorem join_S {z : Str} {ys : List Sg} : (Txt.join z (ys.map SX.S)).cps.toList = TL.joinL z.cps.toList ys := by
  rw [TL.join_eq]
  show TL.tl _ = _
  rw [TL.tl_join, SX.map_S_tl]
theorem joinL_one : ∀ {cs : Sg}, TL.joinL [] (cs.map fun c => [c]) = cs
  | [] => rfl
  | [c] => rfl
  | c :: d :: cs => by
    show [c] ++ ([] ++ TL.joinL [] ((d :: cs).map fun c => [c])) = _
    rw [joinL_one]; rfl
theorem joinL_len {n : Nat} : ∀ {ys : List Sg}, (∀ y ∈ ys, y.length ≤ n) → (TL.joinL [32] ys).length ≤ ys.length * (n + 1)
  | [], _ => Nat.zero_le _
  | [y], h => by
    have := h y List.mem_cons_self
    show y.length ≤ 1 * (n + 1)
    omega
  | y :: z :: ys, h => by
    have h1 := h y List.mem_cons_self
    have h2 := joinL_len (ys := z :: ys) fun u hu => h u (List.mem_cons_of_mem _ hu)
    show (y ++ ([32] ++ TL.joinL [32] (z :: ys))).length ≤ (ys.length + 1 + 1) * (n + 1)
    rw [List.length_append, List.length_append, Nat.succ_mul (ys.length + 1)]
    rw [List.length_cons] at h2
    show y.length + (1 + _) ≤ _
    omega
theorem sum_len {n : Nat} : ∀ {ys : List Sg}, (∀ y ∈ ys, y.length ≤ n) → ((ys.map SX.S).map (·.length)).sum ≤ ys.length * n
  | [], _ => Nat.zero_le _
  | y :: ys, h => by
    have h1 := h y List.mem_cons_self
    have h2 := sum_len (ys := ys) fun u hu => h u (List.mem_cons_of_mem _ hu)
    rw [List.map_cons, List.map_cons, List.sum_cons, List.length_cons, Nat.succ_mul, SX.S_len]
    omega
theorem fx_joinW {z : Str} {p : Addr} {n : Nat} {ys : List Sg} {m : Mp} {k : K3} (h1 : RL m p (wD ys)) (hn : ∀ y ∈ ys, y.length ≤ n) (h2 : ys.length ≤ 100) (h3 : n ≤ 100) (hz : z.length ≤ 1) (h : k (dS (TL.joinL z.cps.toList ys)) m) : fJoin (.str z) [.ref p] m k := by
  refine xf_join (ys := ys.map SX.S) (by rw [List.map_map]; exact h1) ?_ ?_
  · have a := sum_len hn
    have b : ys.length * n ≤ 100 * 100 := Nat.mul_le_mul h2 h3
    have c : (ys.map SX.S).length * z.length ≤ 100 * 1 := by rw [List.length_map]; exact Nat.mul_le_mul h2 hz
    omega
  · rw [show Txt.join z (ys.map SX.S) = SX.S (TL.joinL z.cps.toList ys) by rw [← join_S]]
    exact h
theorem str_num {n : Int} (h : -2000000000000 ≤ n ∧ n ≤ 2000000000000) : ∃ t : Sg, Str.ofString (toString n) = SX.S t ∧ t ≠ [] ∧ t.length ≤ 40 := by
  refine ⟨(Str.ofString (toString n)).cps.toList, S_of.symm, ?_, by rw [str_int]; exact Nat.le_trans (num_len (show NumOk n by unfold NumOk; omega)) (by decide)⟩
  rw [str_int]
  unfold intL
  split
  · exact List.cons_ne_nil _ _
  · exact TL.numL_ne _
theorem log_small' {i : Int} (h : i.natAbs < 2 ^ 100) : i.natAbs.log2 < 1920 := by
  by_cases h0 : i.natAbs = 0
  · rw [h0]; decide
  · exact Nat.lt_of_lt_of_le ((Nat.log2_lt h0).mpr h) (by decide)
theorem fx_strV {v : D} {m : Mp} {k : K3} (h : ValV v) (hk : ∀ t, t.length ≤ 40 → ((∃ n, v = .int n) → t ≠ []) → k (dS t) m) : fStrX [v] m k := by
  rcases h with ⟨n, rfl, h1, h2⟩ | ⟨t, rfl, h1⟩
  · refine xf_strX (log_small' (by have : (2:Nat) ^ 100 = 1267650600228229401496703205376 := by decide
                                   omega)) ?_
    obtain ⟨t, e, e1, e2⟩ := str_num (n := n) ⟨by omega, by omega⟩
    show k (.str (Str.ofString (toString n))) m
    rw [e]
    exact hk t e2 fun _ => e1
  · exact xf_strXs (hk t (by omega) fun ⟨n, e⟩ => nomatch e)
theorem dS_of {z : Str} : D.str z = dS z.cps.toList := congrArg D.str S_of.symm
def sp_law : FSpec where
  al := Addr × List Int
  lev := fun _ => 10
  pre := fun a ds m => ds = [.ref a.1] ∧ Scr m a.1 (a.2.map D.int)
  post := fun a m d m' => d = .bl true
  exc := fun _ _ _ _ => False
theorem b_law (T : Tb) (hH : T i_law_hand sp_hand) (hT : T i_law_draw sp_draw) (hX : T i_law_text sp_text) (hVa : T i_law_value sp_value) (hPi : T i_law_piece sp_piece) (hW : T i_law_words_right sp_wright) (hV : T i_law_value_right sp_vright) : BodyOk (t_law T) N_law sp_law 1 := by
  intro L a ds m k x hl hk hx hp hq he
  dsimp only [sp_law] at hl hp hq he
  obtain ⟨p, ns⟩ := a
  obtain ⟨rfl, hr⟩ := hp
  dsimp only at *
  have hrl := hr.rl
  unfold t_law
  walk_at "x"
  rename_i z hz
  have F1 : Fr [] m (mset m z (.lst (cutD (ns.map D.int) none (some 63)))) := by walk_at "fr"
  have z1 : (mset m z (.lst (cutD (ns.map D.int) none (some 63)))) z = some (.lst (cutD (ns.map D.int) none (some 63))) := mset_same
  have hlen : (cutD (ns.map D.int) none (some 63)).length ≤ 63 := len_cutD_n (n := 63)
  generalize hcs : cutD (ns.map D.int) none (some 63) = cs at *
  have hint : ∀ d ∈ cs, ∃ c, d = .int c := fun d hd => by
    rw [← hcs] at hd
    obtain ⟨c, _, h⟩ := List.mem_map.mp (mem_cutD hd)
    exact ⟨c, h.symm⟩
  generalize mset m z (.lst cs) = m1 at *
  clear hcs hz
  refine ⟨z, cs, rfl, .inl z1, ?_⟩
  refine for3 (fun i s m5 => (∃ c1 c2 c3 c4 c5 c6 c7 c8 c9 c10 c11, s = [some (.ref p), c1, c2, c3, c4, c5, c6, c7, c8, c9, c10, c11, none, none]) ∧ m5 z = some (.lst cs) ∧ Fr [] m m5)
    ⟨⟨_, _, _, _, _, _, _, _, _, _, _, rfl⟩, z1, F1⟩ (fun i s m5 _ h => .inl h.2.1) ?_ ?_
  · rintro i d s m5 hd ⟨⟨c1, c2, c3, c4, c5, c6, c7, c8, c9, c10, c11, rfl⟩, t1, t2⟩
    obtain ⟨e, he0, rfl⟩ := enumD_get hd
    obtain ⟨c, rfl⟩ := hint e (List.mem_of_getElem? he0)
    have hi := (List.getElem?_eq_some_iff.mp he0).1
    have hr5 := hr.fr t2
    walk_at "x"
    refine c_hand hH (by omega) hr5 (by omega) (fun hd0 row m6 a1 a2 a3 a4 => ?_)
    have z6 := a4.at ni_nil t1
    have F6 : Fr [] m m6 := by walk_at "fr"
    have zh : z ≠ hd0 := ne_none t1 a1
    have hn0 : m hd0 = none := (Fr.gone t2 a1).resolve_left ni_nil
    clear a1 a4 t1 t2
    walk_at "x"
    refine c_draw hT (by omega) a2 a3 (by decide) (by decide) (fun r row1 m7 b1 b2 b3 b4 b5 => ?_)
    obtain ⟨r, rfl⟩ : ∃ j : Nat, r = (j : Int) := ⟨r.toNat, by omega⟩
    have z7 := b5.at (ni_cons zh ni_nil) z6
    have F7 : Fr [] m m7 := by walk_at "fr"
    clear b5 z6 F6 a2
    walk_at "x"
    rename_i q1 hq1
    have h1 : q1 ≠ hd0 := Ne.symm (ne_none b3 hq1)
    have hz1 : q1 ≠ z := Ne.symm (ne_none z7 hq1)
    have hm1 : m q1 = none := (Fr.gone F7 hq1).resolve_left ni_nil
    refine ⟨fun j m8 => ∃ (ys : List Sg) (row8 : List D), m8 q1 = some (.lst (wD ys)) ∧ ys.length = j ∧ (∀ y ∈ ys, y.length ≤ 8) ∧ m8 hd0 = some (.lst row8) ∧ HandV row8 ∧ m8 z = some (.lst cs) ∧ Fr [] m m8,
      ⟨[], row1, mset_same, rfl, (fun _ h => nomatch h), (mset_ne (Ne.symm h1)).trans b3, b4, (mset_ne (Ne.symm hz1)).trans z7, by walk_at "fr"⟩, (fun _ _ _ _ => True.intro), ?_, ?_⟩
    · rintro j d m8 hd' ⟨ys, row8, g1, g2, g3, g4, g5, g6, g7⟩
      have hj := (rngD_get hd').1
      walk_at "x"
      refine c_piece hPi (by omega) g4 g5 (fun t row9 m9 e1 e2 e3 e4 => ?_)
      refine ⟨wD ys, e4.at (ni_cons h1 ni_nil) g1, by rw [List.length_map, g2]; exact Nat.lt_of_lt_of_le (show j < 100000 by omega) (by decide), ys ++ [t], row9, by rw [wD_app]; exact mset_same, by rw [List.length_append, g2]; rfl, (fun y hy => ?_), (mset_ne (Ne.symm h1)).trans e2, e3, (mset_ne (Ne.symm hz1)).trans (e4.at (ni_cons zh ni_nil) g6), by walk_at "fr"⟩
      rcases List.mem_append.mp hy with hy | hy
      · exact g3 y hy
      · rw [List.mem_singleton.mp hy]; exact e1
    rintro m8 ⟨ys, row8, g1, g2, g3, g4, g5, g6, g7⟩
    rw [rngD_length] at g2
    clear F7 z7 b3 b4 hq1
    walk_at "x"
    refine c_draw hT (by omega) g4 g5 (by decide) (by decide) (fun r2 row9 m9 b1' b2' b3 b4 b5 => ?_)
    obtain ⟨r2, rfl⟩ : ∃ j : Nat, r2 = (j : Int) := ⟨r2.toNat, by omega⟩
    have g19 := b5.at (ni_cons h1 ni_nil) g1
    have z9 := b5.at (ni_cons zh ni_nil) g6
    have F9 : Fr [] m m9 := by walk_at "fr"
    clear b5 g1 g4 g6 g7
    walk_at "x"
    rename_i q2 hq2
    have h2 : q2 ≠ hd0 := Ne.symm (ne_none b3 hq2)
    have hz2 : q2 ≠ z := Ne.symm (ne_none z9 hq2)
    have h21 : q2 ≠ q1 := Ne.symm (ne_none g19 hq2)
    have hm2 : m q2 = none := (Fr.gone F9 hq2).resolve_left ni_nil
    refine ⟨fun j m8 => ∃ (ws : Sg) (row8 : List D), m8 q2 = some (.lst (wD (ws.map fun c => [c]))) ∧ ws.length = j ∧ m8 hd0 = some (.lst row8) ∧ HandV row8 ∧ m8 q1 = some (.lst (wD ys)) ∧ m8 z = some (.lst cs) ∧ Fr [] m m8,
      ⟨[], row9, mset_same, rfl, (mset_ne (Ne.symm h2)).trans b3, b4, (mset_ne (Ne.symm h21)).trans g19, (mset_ne (Ne.symm hz2)).trans z9, by walk_at "fr"⟩, (fun _ _ _ _ => True.intro), ?_, ?_⟩
    · rintro j d m8 hd' ⟨ws, row8, g1, g2, g4, g5, g6, g7, g8⟩
      have hj := (rngD_get hd').1
      walk_at "x"
      refine c_draw hT (by omega) g4 g5 (by decide) (by decide) (fun r3 row10 m10 e1 e2 e3 e4 e5 => ?_)
      refine fx_S (by decide +kernel) e1 (by rw [show (Str.ofString "''  ab.1(;").cps.toList.length = 10 by decide +kernel]; exact e2) (fun b _ _ => ?_)
      refine ⟨wD (ws.map fun c => [c]), e5.at (ni_cons h2 ni_nil) g1, by rw [List.length_map, List.length_map, g2]; exact Nat.lt_of_lt_of_le (show j < 100000 by omega) (by decide), ws ++ [b], row10, by rw [List.map_append, wD_app]; exact mset_same, by rw [List.length_append, g2]; rfl, (mset_ne (Ne.symm h2)).trans e3, e4, (mset_ne (Ne.symm h21)).trans (e5.at (ni_cons h1 ni_nil) g6), (mset_ne (Ne.symm hz2)).trans (e5.at (ni_cons zh ni_nil) g7), by walk_at "fr"⟩
    rintro m10 ⟨ws, row10, g1, g2', g4, g5, g6, g7, g8⟩
    rw [rngD_length] at g2'
    clear F9 z9 b3 b4 hq2 g19
    walk_at "x"
    refine fx_joinW (z := Str.ofString "") (n := 1) (.inl g1) (fun y hy => by obtain ⟨b, _, rfl⟩ := List.mem_map.mp hy; exact Nat.le_refl _) (by rw [List.length_map]; omega) (by decide) (by decide) ?_
    rw [show (Str.ofString "").cps.toList = [] from rfl, joinL_one]
    clear g1
    walk_at "x"
    refine fx_joinW (z := Str.ofString " ") (n := 8) (.inl g6) g3 (by omega) (by decide) (by decide) ?_
    rw [show (Str.ofString " ").cps.toList = [32] from rfl]
    have hjl := joinL_len g3
    have hj2 : ys.length * (8 + 1) ≤ 10 * 9 := Nat.mul_le_mul (by omega) (Nat.le_refl _)
    walk_at "x"
    refine c_wright hW (by omega) (by omega) (fun m11 f11 => ?_)
    walk_at "x"
    refine c_wright hW (by omega) (by omega) (fun m12 f12 => ?_)
    have f12 := Fr.sub f12 (fun a h => nomatch h) f11
    have g412 := f12.at ni_nil g4
    have z12 := f12.at ni_nil g7
    have F12 : Fr [] m m12 := Fr.sub f12 (fun a h => nomatch h) g8
    clear f12 f11 g4 g6 g7 g8
    walk_at "x"
    refine c_draw hT (by omega) g412 g5 (by decide) (by decide) (fun r3 row13 m13 b1' b2' b3 b4 b5 => ?_)
    have z13 := b5.at (ni_cons zh ni_nil) z12
    have F13 : Fr [] m m13 := by walk_at "fr"
    clear b5 g412 z12 F12
    walk_at "x"
    rename_i q3 hq3
    have h3 : q3 ≠ hd0 := Ne.symm (ne_none b3 hq3)
    have hz3 : q3 ≠ z := Ne.symm (ne_none z13 hq3)
    have hm3 : m q3 = none := (Fr.gone F13 hq3).resolve_left ni_nil
    refine ⟨fun j m8 => ∃ (us : Sg) (row8 : List D), m8 q3 = some (.lst (wD (us.map fun c => [c]))) ∧ us.length = j ∧ m8 hd0 = some (.lst row8) ∧ HandV row8 ∧ m8 z = some (.lst cs) ∧ Fr [] m m8,
      ⟨[], row13, mset_same, rfl, (mset_ne (Ne.symm h3)).trans b3, b4, (mset_ne (Ne.symm hz3)).trans z13, by walk_at "fr"⟩, (fun _ _ _ _ => True.intro), ?_, ?_⟩
    · rintro j d m8 hd' ⟨us, row8, g1, g2, g4, g5, g7, g8⟩
      have hj := (rngD_get hd').1
      walk_at "x"
      refine c_draw hT (by omega) g4 g5 (by decide) (by decide) (fun r4 row14 m14 e1 e2 e3 e4 e5 => ?_)
      refine fx_S (by decide +kernel) e1 (by rw [show (Str.ofString "0123456789-'a0").cps.toList.length = 14 by decide +kernel]; exact e2) (fun b _ _ => ?_)
      refine ⟨wD (us.map fun c => [c]), e5.at (ni_cons h3 ni_nil) g1, by rw [List.length_map, List.length_map, g2]; exact Nat.lt_of_lt_of_le (show j < 100000 by omega) (by decide), us ++ [b], row14, by rw [List.map_append, wD_app]; exact mset_same, by rw [List.length_append, g2]; rfl, (mset_ne (Ne.symm h3)).trans e3, e4, (mset_ne (Ne.symm hz3)).trans (e5.at (ni_cons zh ni_nil) g7), by walk_at "fr"⟩
    rintro m14 ⟨us, row14, g1, g2u, g4, g5, g7, g8⟩
    rw [rngD_length] at g2u
    have hus : us ≠ [] := fun e => by rw [e] at g2u; simp at g2u; omega
    have hus2 : us.length ≤ 16 := by omega
    clear F13 z13 b3 b4 hq3 g2u
    walk_at "x"
    refine fx_joinW (z := Str.ofString "") (n := 1) (.inl g1) (fun y hy => by obtain ⟨b, _, rfl⟩ := List.mem_map.mp hy; exact Nat.le_refl _) (by rw [List.length_map]; omega) (by decide) (by decide) ?_
    rw [show (Str.ofString "").cps.toList = [] from rfl, joinL_one]
    clear g1
    walk_at "x"
    refine c_value hVa (by omega) g4 g5 (fun v row15 m15 hv e2 e3 e4 => ?_)
    have z15 := e4.at (ni_cons zh ni_nil) g7
    have F15 : Fr [] m m15 := by walk_at "fr"
    clear e4 g4 g5 g7 g8
    walk_at "x"
    refine fx_strV hv (fun t0 ht0 ht1 => ?_)
    walk_at "x"
    refine x_seqJ (fun s m' => ∃ tt : Sg, s = [some (.ref p), some (.int (i : Nat)), some (.int c), some (.ref hd0), some (.ref q1), some (dS ws), some (dS us), some v, some (dS tt), c9, c10, c11, none, none] ∧ m' = m15 ∧ tt ≠ [] ∧ tt.length ≤ 60) ?_ ?_
    rotate_left
    · intro n hn
      rcases hv with ⟨nn, rfl, -⟩ | ⟨t, rfl, ht⟩
      · walk_at "x"
        exact hn _ _ ⟨t0, rfl, rfl, ht1 ⟨_, rfl⟩, by omega⟩
      · walk_at "x"
        refine fx_addW (a := [39]) (by simp only [List.length_cons, List.length_nil]; omega) ?_
        walk_at "x"
        refine fx_addW (b := [39]) (by simp only [List.length_append, List.length_cons, List.length_nil]; omega) ?_
        walk_at "x"
        exact hn _ _ ⟨_, rfl, rfl, List.cons_ne_nil _ _, by simp only [List.length_append, List.length_cons, List.length_nil]; omega⟩
    rintro s m16 ⟨tt, rfl, rfl, htt, htl⟩
    walk_at "x"
    rename_i q4 hq4
    have h4 : hd0 ≠ q4 := ne_none e2 hq4
    have hz4 : z ≠ q4 := ne_none z15 hq4
    have F16 : Fr [] m (mset m16 q4 (.lst [.int 1, .int (-1)])) := by walk_at "fr"
    refine c_draw hT (by omega) ((mset_ne h4).trans e2) e3 (by decide) (by decide) (fun r5 row17 m17 o1 o2 o3 o4 o5 => ?_)
    have F17 : Fr [] m m17 := by walk_at "fr"
    have z17 := o5.at (ni_cons zh ni_nil) ((mset_ne hz4).trans z15)
    refine fx_M (.inl (o5.at (ni_cons (Ne.symm h4) ni_nil) mset_same)) o1 o2 (fun d hd' _ => ?_)
    obtain ⟨sg, rfl, hsg⟩ : ∃ sg : Int, d = .int sg ∧ (sg = 1 ∨ sg = -1) := by
      rcases (show d = .int 1 ∨ d = .int (-1) by simpa using hd') with rfl | rfl
      · exact ⟨_, rfl, .inl rfl⟩
      · exact ⟨_, rfl, .inr rfl⟩
    clear o5 F16 e2 z15
    walk_at "x"
    rw [show (10 : Int) ^ Int.toNat 12 = 1000000000000 by decide]
    refine c_draw hT (by omega) o3 o4 (by decide) (by decide) (fun r6 row18 m18 p1 p2 p3 p4 p5 => ?_)
    have F18 : Fr [] m m18 := by walk_at "fr"
    have z18 := p5.at (ni_cons zh ni_nil) z17
    clear p5 F17 z17 o3
    have hsb : -1 ≤ sg ∧ sg ≤ 1 := by omega
    walk_at "x"
    have hN : -2000000000000 ≤ sg * (1000000000000 - 2 + r6) ∧ sg * (1000000000000 - 2 + r6) ≤ 2000000000000 := by rcases hsg with rfl | rfl <;> omega
    generalize sg * (1000000000000 - 2 + r6) = N at *
    refine xf_strX (log_small' (by have : (2:Nat) ^ 100 = 1267650600228229401496703205376 := by decide
                                   omega)) ?_
    obtain ⟨nt, en, en1, en2⟩ := str_num (n := N) hN
    rw [show (toString N : Str) = SX.S nt from en]
    walk_at "x"
    refine c_text (n := 22) hX (by omega) p3 p4 (by decide) (fun tx row19 m19 u1 u2 u3 u4 => ?_)
    have F19 : Fr [] m m19 := by walk_at "fr"
    have z19 := u4.at (ni_cons zh ni_nil) z18
    clear u4 F18 z18 p3
    refine fx_addW (a := [39]) (by simp only [List.length_cons, List.length_nil]; omega) ?_
    walk_at "x"
    rename_i q5 hq5
    have h5 : hd0 ≠ q5 := ne_none u2 hq5
    have hz5 : z ≠ q5 := ne_none z19 hq5
    have F20 : Fr [] m (mset m19 q5 (.lst [.str (Str.ofString ""), .str (Str.ofString ""), .str (Str.ofString ";"), .str (Str.ofString "\n")])) := by walk_at "fr"
    refine c_draw hT (by omega) ((mset_ne h5).trans u2) u3 (by decide) (by decide) (fun r7 row20 m20 v1 v2 v3 v4 v5 => ?_)
    have F21 : Fr [] m m20 := by walk_at "fr"
    have z20 := v5.at (ni_cons zh ni_nil) ((mset_ne hz5).trans z19)
    refine fx_M (.inl (v5.at (ni_cons (Ne.symm h5) ni_nil) mset_same)) v1 v2 (fun d hd' _ => ?_)
    obtain ⟨du, rfl, hdu⟩ : ∃ du : Sg, d = dS du ∧ du.length ≤ 1 := by
      simp only [List.mem_cons, List.not_mem_nil, or_false] at hd'
      rcases hd' with rfl | rfl | rfl | rfl <;> exact ⟨_, dS_of, by decide +kernel⟩
    clear v5 F20 z19 u2 F19
    refine fx_addW (by simp only [List.length_append, List.length_cons, List.length_nil]; omega) ?_
    walk_at "x"
    refine fx_addW (b := [39]) (by simp only [List.length_append, List.length_cons, List.length_nil]; omega) ?_
    walk_at "x"
    refine fx_addW (a := [48]) (by simp only [List.length_cons, List.length_nil]; omega) ?_
    walk_at "x"
    refine fx_addW (a := [39]) (by simp only [List.length_cons, List.length_nil]; omega) ?_
    walk_at "x"
    rename_i qz hqz
    have hall : ∀ d ∈ [dS us, dS tt, D.str (SX.S nt), dS ([48] ++ nt), D.str (Str.ofString "-0"), dS ([39] ++ us), dS ([39] ++ tx ++ du ++ [39])], ∃ u : Sg, d = dS u ∧ u ≠ [] ∧ u.length ≤ 600 := fun d hd => by
      simp only [List.mem_cons, List.not_mem_nil, or_false] at hd
      rcases hd with rfl | rfl | rfl | rfl | rfl | rfl | rfl
      · exact ⟨us, rfl, hus, by omega⟩
      · exact ⟨tt, rfl, htt, by omega⟩
      · exact ⟨nt, rfl, en1, by omega⟩
      · exact ⟨_, rfl, List.cons_ne_nil _ _, by simp only [List.length_append, List.length_cons, List.length_nil]; omega⟩
      · exact ⟨[45, 48], rfl, List.cons_ne_nil _ _, by decide⟩
      · exact ⟨_, rfl, List.cons_ne_nil _ _, by simp only [List.length_append, List.length_cons, List.length_nil]; omega⟩
      · exact ⟨_, rfl, List.cons_ne_nil _ _, by simp only [List.length_append, List.length_cons, List.length_nil]; omega⟩
    have zq : z ≠ qz := ne_none z20 hqz
    have F22 : Fr [] m (mset m20 qz (.lst [dS us, dS tt, D.str (SX.S nt), dS ([48] ++ nt), D.str (Str.ofString "-0"), dS ([39] ++ us), dS ([39] ++ tx ++ du ++ [39])])) := by walk_at "fr"
    have z22 : (mset m20 qz (.lst [dS us, dS tt, D.str (SX.S nt), dS ([48] ++ nt), D.str (Str.ofString "-0"), dS ([39] ++ us), dS ([39] ++ tx ++ du ++ [39])])) z = some (.lst cs) := (mset_ne zq).trans z20
    have q22 : (mset m20 qz (.lst [dS us, dS tt, D.str (SX.S nt), dS ([48] ++ nt), D.str (Str.ofString "-0"), dS ([39] ++ us), dS ([39] ++ tx ++ du ++ [39])])) qz = some (.lst [dS us, dS tt, D.str (SX.S nt), dS ([48] ++ nt), D.str (Str.ofString "-0"), dS ([39] ++ us), dS ([39] ++ tx ++ du ++ [39])]) := mset_same
    refine for3 (fun i' s m' => (∃ c1 c2 c3 c4 c5 c6 c7 c8 c9 c10 c11, s = [some (.ref p), c1, c2, c3, c4, c5, c6, c7, c8, c9, c10, c11, none, none]) ∧ m' qz = some (.lst [dS us, dS tt, D.str (SX.S nt), dS ([48] ++ nt), D.str (Str.ofString "-0"), dS ([39] ++ us), dS ([39] ++ tx ++ du ++ [39])]) ∧ m' z = some (.lst cs) ∧ Fr [] m m')
      ⟨⟨_, _, _, _, _, _, _, _, _, _, _, rfl⟩, q22, z22, F22⟩ (fun _ _ _ _ h => .inl h.2.1) ?_ ?_
    · generalize [dS us, dS tt, D.str (SX.S nt), dS ([48] ++ nt), D.str (Str.ofString "-0"), dS ([39] ++ us), dS ([39] ++ tx ++ du ++ [39])] = lw at *
      rintro i' d s m' hd' ⟨⟨c1, c2, c3, c4, c5, c6, c7, c8, c9, c10, c11, rfl⟩, w1, w2, w3⟩
      obtain ⟨u, rfl, hu1, hu2⟩ := hall d (List.mem_of_getElem? hd')
      clear q22 z22 F22 hqz z20 F21 hq5 hq4
      walk_at "x"
      refine c_vright hV (by omega) hu1 hu2 (fun m23 f23 => ?_)
      have w1' := f23.at ni_nil w1
      have w2' := f23.at ni_nil w2
      have w3' := Fr.sub f23 (fun a h => nomatch h) w3
      clear f23 w1 w2 w3
      walk_at "x"
      exact ⟨⟨_, _, _, _, _, _, _, _, _, _, _, rfl⟩, w1', w2', w3'⟩
    · rintro s m' ⟨⟨c1, c2, c3, c4, c5, c6, c7, c8, c9, c10, c11, rfl⟩, w1, w2, w3⟩
      exact ⟨⟨_, _, _, _, _, _, _, _, _, _, _, rfl⟩, w2, w3⟩
  · rintro s m5 ⟨⟨c1, c2, c3, c4, c5, c6, c7, c8, c9, c10, c11, rfl⟩, t1, t2⟩
    walk_at "x"
    rename_i qz hqz
    have hall : ∀ d ∈ [D.str (Str.ofString ""), D.str (Str.ofString " "), D.str (Str.ofString "a"), D.str (Str.ofString "'"), D.str (Str.ofString "''"), D.str (Str.ofString "' '"), D.str (Str.ofString "'a' 'b'"), D.str (Str.ofString "'a''b'"), D.str (Str.ofString "a 'b c' d"), D.str (Str.ofString "a 'b c'd")], ∃ u : Sg, d = dS u ∧ u.length ≤ 1000 := fun d hd => by
      simp only [List.mem_cons, List.not_mem_nil, or_false] at hd
      rcases hd with rfl | rfl | rfl | rfl | rfl | rfl | rfl | rfl | rfl | rfl <;> exact ⟨_, dS_of, by decide +kernel⟩
    generalize [D.str (Str.ofString ""), D.str (Str.ofString " "), D.str (Str.ofString "a"), D.str (Str.ofString "'"), D.str (Str.ofString "''"), D.str (Str.ofString "' '"), D.str (Str.ofString "'a' 'b'"), D.str (Str.ofString "'a''b'"), D.str (Str.ofString "a 'b c' d"), D.str (Str.ofString "a 'b c'd")] = lw at *
    refine for3 (fun i' s m' => (∃ c12, s = [some (.ref p), c1, c2, c3, c4, c5, c6, c7, c8, c9, c10, c11, c12, none]) ∧ m' qz = some (.lst lw)) ⟨⟨_, rfl⟩, mset_same⟩ (fun _ _ _ _ h => .inl h.2) ?_ ?_
    · rintro i' d s m' hd' ⟨⟨c12, rfl⟩, w1⟩
      obtain ⟨u, rfl, hu⟩ := hall d (List.mem_of_getElem? hd')
      clear hqz t1 t2
      walk_at "x"
      refine c_wright hW (by omega) hu (fun m23 f23 => ?_)
      have w1' := f23.at ni_nil w1
      clear f23 w1
      walk_at "x"
      exact ⟨⟨_, rfl⟩, w1'⟩
    · rintro s m' ⟨⟨c12, rfl⟩, w1⟩
      walk_at "x"
      exact hq _ _ rfl

def top (i : Nat) : Stmt := PySem.Challenge.pw_papervault_k65_words_and_values.main.body.getD i (.Pass ⟨0, 0, 0, 0⟩)
structure Wd (P : Program) (w : World) (K : PySem.W.Frag) (mg : Str → Option Value) (base : Heap) (cl : Cl) (T : Tb) (ad : Nat → Addr) (L : Nat) : Prop where
  f_is_value : Kn P w K mg base cl T L 182 (Str.ofString "is_value") (ad 182)
  f_words_in : Kn P w K mg base cl T L 186 (Str.ofString "words_in") (ad 186)
  f_number_of : Kn P w K mg base cl T L 181 (Str.ofString "number_of") (ad 181)
  f_value_of : Kn P w K mg base cl T L 189 (Str.ofString "value_of") (ad 189)
  f__law_hand : Kn P w K mg base cl T L 190 (Str.ofString "_law_hand") (ad 190)
  f__law_draw : Kn P w K mg base cl T L 183 (Str.ofString "_law_draw") (ad 183)
  f__law_text : Kn P w K mg base cl T L 184 (Str.ofString "_law_text") (ad 184)
  f__law_value : Kn P w K mg base cl T L 191 (Str.ofString "_law_value") (ad 191)
  f__law_refused : Kn P w K mg base cl T L 187 (Str.ofString "_law_refused") (ad 187)
  f__law_parted : Kn P w K mg base cl T L 185 (Str.ofString "_law_parted") (ad 185)
  f__law_worth : Kn P w K mg base cl T L 188 (Str.ofString "_law_worth") (ad 188)
  f__law_words_right : Kn P w K mg base cl T L 192 (Str.ofString "_law_words_right") (ad 192)
  f__law_value_right : Kn P w K mg base cl T L 193 (Str.ofString "_law_value_right") (ad 193)
  f__law_piece : Kn P w K mg base cl T L 194 (Str.ofString "_law_piece") (ad 194)
  b_ValueError : mg (Str.ofString "ValueError") = none
  b_bool : mg (Str.ofString "bool") = none
  b_enumerate : mg (Str.ofString "enumerate") = none
  b_int : mg (Str.ofString "int") = none
  b_isinstance : mg (Str.ofString "isinstance") = none
  b_len : mg (Str.ofString "len") = none
  b_list : mg (Str.ofString "list") = none
  b_ord : mg (Str.ofString "ord") = none
  b_range : mg (Str.ofString "range") = none
  b_str : mg (Str.ofString "str") = none
  b_sum : mg (Str.ofString "sum") = none
  ex : ExK K mg cl
  x_BadThing : ∃ a, cl "BadThing" = some a
  x_Clash : ∃ a, cl "Clash" = some a
  x_NoColumn : ∃ a, cl "NoColumn" = some a
  x_NoName : ∃ a, cl "NoName" = some a
  x_NoPaper : ∃ a, cl "NoPaper" = some a
  x_NoPlan : ∃ a, cl "NoPlan" = some a
  x_NoQuestion : ∃ a, cl "NoQuestion" = some a
  x_NoRow : ∃ a, cl "NoRow" = some a
  x_NoState : ∃ a, cl "NoState" = some a
  x_NoStep : ∃ a, cl "NoStep" = some a
  x_NoTable : ∃ a, cl "NoTable" = some a
  x_NotSo : ∃ a, cl "NotSo" = some a
  x_VaultError : ∃ a, cl "VaultError" = some a
  c_FIGURES : ∃ u, mg (Str.ofString "FIGURES") = some u ∧ RelV (.str (Str.ofString "0123456789")) u
  c_MOST : ∃ u, mg (Str.ofString "MOST") = some u ∧ RelV (.int 1000000000000) u
  c_MOST_FIGURES : ∃ u, mg (Str.ofString "MOST_FIGURES") = some u ∧ RelV (.int 13) u
  c_MOST_SIGNS : ∃ u, mg (Str.ofString "MOST_SIGNS") = some u ∧ RelV (.int 20) u
  c_QUOTE : ∃ u, mg (Str.ofString "QUOTE") = some u ∧ RelV (.str (Str.ofString "'")) u
  c_SIGNS : ∃ u, mg (Str.ofString "SIGNS") = some u ∧ RelV (.str (Str.ofString " !\"#$&()*+,-./0123456789:<=>?@ABCDEFGHIJKLMNOPQRSTUVWXYZ[\\]^_`abcdefghijklmnopqrstuvwxyz{|}~")) u
section
variable {P : Program} {w : World} {K : PySem.W.Frag} {mg : Str → Option Value} {base : Heap} {cl : Cl} {T : Tb} {ad : Nat → Addr} {L : Nat}
abbrev st_is_value : Stmt := top 18
theorem sc_is_value : FnScope N_is_value [(Str.ofString "thing")] (defScope st_is_value) := ⟨rfl, rfl, rfl, by decide +kernel, rfl, by decide +kernel, by decide +kernel⟩
theorem d_is_value (G : Wd P w K mg base cl T ad L) {f : Addr} (cdv : Value) (A : Around) (outer : List Env) (s : Shared) (H : Hp) (E : XK) (hr : Room L (A.deeper (envOfC (Str.ofString "is_value") (defScope st_is_value) s.heap.objs.size f cdv))) :
    QB (cxOf (L2.CX P w) P w K mg base N_is_value (Str.ofString "is_value") (defScope st_is_value) f cdv A outer s H E) cl (fun c d _ H => E c d H) (defBody st_is_value) (t_is_value T L) := by
  have S := sc_is_value
  have tk : Takes (cxOf (L2.CX P w) P w K mg base N_is_value (Str.ofString "is_value") (defScope st_is_value) f cdv A outer s H E) (fun c d _ H => E c d H) := takes_of rfl rfl rfl rfl
  have pw : PassesOwn (model P w) (A.deeper (envOfC (Str.ofString "is_value") (defScope st_is_value) s.heap.objs.size f cdv)) (envOfC (Str.ofString "is_value") (defScope st_is_value) s.heap.objs.size f cdv) (cxOf (L2.CX P w) P w K mg base N_is_value (Str.ofString "is_value") (defScope st_is_value) f cdv A outer s H E).xe := passes_of rfl
  exact (qb_cons (qs_if (t_tru (q_isi rfl G.b_isinstance (qa_cons (q_var (i := 0) rfl (Or.inl rfl) rfl rfl) (qa_cons (q_ty (by decide +kernel) (by decide) rfl rfl G.b_bool) qa_nil rfl) rfl) rfl rfl) (fun _ => rfl)) (qb_one (qs_ret q_bl)) qb_nil)
    (qb_cons (qs_if (t_tru (q_isi rfl G.b_isinstance (qa_cons (q_var (i := 0) rfl (Or.inl rfl) rfl rfl) (qa_cons (q_ty (by decide +kernel) (by decide) rfl rfl G.b_int) qa_nil rfl) rfl) rfl rfl) (fun _ => rfl)) (qb_one (qs_ret (q_chain op_le op_le (by decide) (by decide) (by decide) (by decide) (q_sub q_int (q_con (v := (.int 1000000000000)) rfl G.c_MOST (fun _ => rfl) rfl)) (q_var (i := 0) rfl (Or.inl rfl) rfl rfl) (q_con (v := (.int 1000000000000)) rfl G.c_MOST (fun _ => rfl) rfl)))) qb_nil)
    (qb_cons (qs_if (t_w (w_or (t_not (t_tru (q_isi rfl G.b_isinstance (qa_cons (q_var (i := 0) rfl (Or.inl rfl) rfl rfl) (qa_cons (q_ty (by decide +kernel) (by decide) rfl rfl G.b_str) qa_nil rfl) rfl) rfl rfl) (fun _ => rfl))) (w_or1 (t_gt  (q_len rfl G.b_len (qa_cons (q_var (i := 0) rfl (Or.inl rfl) rfl rfl) qa_nil rfl) rfl rfl) (q_con (v := (.int 20)) rfl G.c_MOST_SIGNS (fun _ => rfl) rfl))))) (qb_one (qs_ret q_bl)) qb_nil)
    (qb_cons (qs_for pw rfl (qi_seq (q_var (i := 0) rfl (Or.inl rfl) rfl rfl)) (qg_name (i := 1) S.nd rfl (Or.inl rfl) (Or.inl rfl)) (qb_one (qs_if (t_notin (room66 hr) (q_var (i := 1) rfl (Or.inl rfl) rfl rfl) (q_con (v := (.str (Str.ofString " !\"#$&()*+,-./0123456789:<=>?@ABCDEFGHIJKLMNOPQRSTUVWXYZ[\\]^_`abcdefghijklmnopqrstuvwxyz{|}~"))) rfl G.c_SIGNS (fun _ => rfl) rfl) rfl) (qb_one (qs_ret q_bl)) qb_nil)) (fun _ => rfl))
    (qb_one (qs_ret q_bl))))))
abbrev st_words_in : Stmt := top 23
theorem sc_words_in : FnScope N_words_in [(Str.ofString "text")] (defScope st_words_in) := ⟨rfl, rfl, rfl, by decide +kernel, rfl, by decide +kernel, by decide +kernel⟩
theorem d_words_in (G : Wd P w K mg base cl T ad L) {f : Addr} (cdv : Value) (A : Around) (outer : List Env) (s : Shared) (H : Hp) (E : XK) (hr : Room L (A.deeper (envOfC (Str.ofString "words_in") (defScope st_words_in) s.heap.objs.size f cdv))) :
    QB (cxOf (L2.CX P w) P w K mg base N_words_in (Str.ofString "words_in") (defScope st_words_in) f cdv A outer s H E) cl (fun c d _ H => E c d H) (defBody st_words_in) (t_words_in T L) := by
  have S := sc_words_in
  have tk : Takes (cxOf (L2.CX P w) P w K mg base N_words_in (Str.ofString "words_in") (defScope st_words_in) f cdv A outer s H E) (fun c d _ H => E c d H) := takes_of rfl rfl rfl rfl
  have pw : PassesOwn (model P w) (A.deeper (envOfC (Str.ofString "words_in") (defScope st_words_in) s.heap.objs.size f cdv)) (envOfC (Str.ofString "words_in") (defScope st_words_in) s.heap.objs.size f cdv) (cxOf (L2.CX P w) P w K mg base N_words_in (Str.ofString "words_in") (defScope st_words_in) f cdv A outer s H E).xe := passes_of rfl
  exact (qb_cons (qs_if (t_not (t_tru (q_isi rfl G.b_isinstance (qa_cons (q_var (i := 0) rfl (Or.inl rfl) rfl rfl) (qa_cons (q_ty (by decide +kernel) (by decide) rfl rfl G.b_str) qa_nil rfl) rfl) rfl rfl) (fun _ => rfl))) (qb_one (qs_raise G.ex tk rfl (by decide) G.x_NoQuestion (by decide) rfl rfl rfl)) qb_nil)
    (qb_cons (qs_asg (q_lst (qa_cons q_str qa_nil rfl)) (qg_name (i := 1) S.nd rfl (Or.inl rfl) (Or.inl rfl)) rfl rfl rfl)
    (qb_cons (qs_asg q_bl (qg_name (i := 2) S.nd rfl (Or.inl rfl) (Or.inl rfl)) rfl rfl rfl)
    (qb_cons (qs_asg q_bl (qg_name (i := 3) S.nd rfl (Or.inl rfl) (Or.inl rfl)) rfl rfl rfl)
    (qb_cons (qs_for pw rfl (qi_seq (q_var (i := 0) rfl (Or.inl rfl) rfl rfl)) (qg_name (i := 4) S.nd rfl (Or.inl rfl) (Or.inl rfl)) (qb_one (qs_if (t_w (w_and (t_eq hr.units (q_var (i := 4) rfl (Or.inl rfl) rfl rfl) q_str) (w_and1 (t_not (t_tru (q_var (i := 2) rfl (Or.inl rfl) rfl rfl) (fun _ => rfl)))))) (qb_cons (qs_exp (q_mt (T := "list") (id := "list.append") PySem.F.plainAttrs_list PySem.F.slot_list_append PySem.F.type_list_append mt_append up_append mono_append (q_var (i := 1) rfl (Or.inl rfl) rfl rfl) (qa_cons q_str qa_nil rfl) rfl rfl rfl rfl rfl) rfl)
    (qb_one (qs_asg q_bl (qg_name (i := 3) S.nd rfl (Or.inl rfl) (Or.inl rfl)) rfl rfl rfl))) (qb_one (qs_if (t_w (w_or (t_tru (q_var (i := 3) rfl (Or.inl rfl) rfl rfl) (fun _ => rfl)) (w_or1 (t_w (w_and (t_eq hr.units (q_var (i := 4) rfl (Or.inl rfl) rfl rfl) (q_con (v := (.str (Str.ofString "'"))) rfl G.c_QUOTE (fun _ => rfl) rfl)) (w_and (t_not (t_tru (q_var (i := 2) rfl (Or.inl rfl) rfl rfl) (fun _ => rfl))) (w_and1 (t_ne hr.units (q_ix hr.units (q_var (i := 1) rfl (Or.inl rfl) rfl rfl) (q_neg q_int) (fun _ _ => rfl)) q_str)))))))) (qb_one (qs_raise G.ex tk rfl (by decide) G.x_NoQuestion (by decide) rfl rfl rfl)) (qb_cons (qs_sub hr.units (q_add (q_ix hr.units (q_var (i := 1) rfl (Or.inl rfl) rfl rfl) (q_neg q_int) (fun _ _ => rfl)) (q_var (i := 4) rfl (Or.inl rfl) rfl rfl)) (q_var (i := 1) rfl (Or.inl rfl) rfl rfl) (q_neg q_int) (fun _ => rfl) rfl rfl rfl)
    (qb_one (qs_if (t_eq hr.units (q_var (i := 4) rfl (Or.inl rfl) rfl rfl) (q_con (v := (.str (Str.ofString "'"))) rfl G.c_QUOTE (fun _ => rfl) rfl)) (qb_cons (qs_asg (q_var (i := 2) rfl (Or.inl rfl) rfl rfl) (qg_name (i := 3) S.nd rfl (Or.inl rfl) (Or.inl rfl)) rfl rfl rfl)
    (qb_one (qs_asg (q_not (q_var (i := 2) rfl (Or.inl rfl) rfl rfl)) (qg_name (i := 2) S.nd rfl (Or.inl rfl) (Or.inl rfl)) rfl rfl rfl))) qb_nil))))))) (fun _ => rfl))
    (qb_cons (qs_if (t_w (w_or (t_tru (q_var (i := 2) rfl (Or.inl rfl) rfl rfl) (fun _ => rfl)) (w_or1 (t_in (room66 hr) q_str (q_var (i := 1) rfl (Or.inl rfl) rfl rfl) rfl)))) (qb_one (qs_raise G.ex tk rfl (by decide) G.x_NoQuestion (by decide) rfl rfl rfl)) qb_nil)
    (qb_one (qs_ret (q_var (i := 1) rfl (Or.inl rfl) rfl rfl)))))))))
abbrev st_number_of : Stmt := top 24
theorem sc_number_of : FnScope N_number_of [(Str.ofString "word")] (defScope st_number_of) := ⟨rfl, rfl, rfl, by decide +kernel, rfl, by decide +kernel, by decide +kernel⟩
theorem d_number_of (G : Wd P w K mg base cl T ad L) {f : Addr} (cdv : Value) (A : Around) (outer : List Env) (s : Shared) (H : Hp) (E : XK) (hr : Room L (A.deeper (envOfC (Str.ofString "number_of") (defScope st_number_of) s.heap.objs.size f cdv))) :
    QB (cxOf (L2.CX P w) P w K mg base N_number_of (Str.ofString "number_of") (defScope st_number_of) f cdv A outer s H E) cl (fun c d _ H => E c d H) (defBody st_number_of) (t_number_of T L) := by
  have S := sc_number_of
  have tk : Takes (cxOf (L2.CX P w) P w K mg base N_number_of (Str.ofString "number_of") (defScope st_number_of) f cdv A outer s H E) (fun c d _ H => E c d H) := takes_of rfl rfl rfl rfl
  have pw : PassesOwn (model P w) (A.deeper (envOfC (Str.ofString "number_of") (defScope st_number_of) s.heap.objs.size f cdv)) (envOfC (Str.ofString "number_of") (defScope st_number_of) s.heap.objs.size f cdv) (cxOf (L2.CX P w) P w K mg base N_number_of (Str.ofString "number_of") (defScope st_number_of) f cdv A outer s H E).xe := passes_of rfl
  exact (qb_cons (qs_asg (q_var (i := 0) rfl (Or.inl rfl) rfl rfl) (qg_name (i := 1) S.nd rfl (Or.inl rfl) (Or.inl rfl)) rfl rfl rfl)
    (qb_consJ (qs_if (t_eq hr.units (q_sl (q_var (i := 0) rfl (Or.inl rfl) rfl rfl) qo_none (qo_some q_int)) q_str) (qb_one (qs_asg (q_sl (q_var (i := 0) rfl (Or.inl rfl) rfl rfl) (qo_some q_int) qo_none) (qg_name (i := 1) S.nd rfl (Or.inl rfl) (Or.inl rfl)) rfl rfl rfl)) qb_nil)
    (qb_cons (qs_if (t_w (w_or (t_lt hr.units (q_len rfl G.b_len (qa_cons (q_var (i := 1) rfl (Or.inl rfl) rfl rfl) qa_nil rfl) rfl rfl) q_int) (w_or (t_gt  (q_len rfl G.b_len (qa_cons (q_var (i := 1) rfl (Or.inl rfl) rfl rfl) qa_nil rfl) rfl rfl) (q_con (v := (.int 13)) rfl G.c_MOST_FIGURES (fun _ => rfl) rfl)) (w_or1 (t_w (w_and (t_eq hr.units (q_ix hr.units (q_var (i := 1) rfl (Or.inl rfl) rfl rfl) q_int (fun _ _ => rfl)) q_str) (w_and1 (t_ne hr.units (q_var (i := 0) rfl (Or.inl rfl) rfl rfl) q_str)))))))) (qb_one (qs_ret q_non)) qb_nil)
    (qb_cons (qs_for pw rfl (qi_seq (q_var (i := 1) rfl (Or.inl rfl) rfl rfl)) (qg_name (i := 2) S.nd rfl (Or.inl rfl) (Or.inl rfl)) (qb_one (qs_if (t_notin (room66 hr) (q_var (i := 2) rfl (Or.inl rfl) rfl rfl) (q_con (v := (.str (Str.ofString "0123456789"))) rfl G.c_FIGURES (fun _ => rfl) rfl) rfl) (qb_one (qs_ret q_non)) qb_nil)) (fun _ => rfl))
    (qb_one (qs_ret (q_int1 rfl G.b_int (qa_cons (q_var (i := 0) rfl (Or.inl rfl) rfl rfl) qa_nil rfl) rfl rfl)))))))
abbrev st_value_of : Stmt := top 25
theorem sc_value_of : FnScope N_value_of [(Str.ofString "word")] (defScope st_value_of) := ⟨rfl, rfl, rfl, by decide +kernel, rfl, by decide +kernel, by decide +kernel⟩
theorem d_value_of (G : Wd P w K mg base cl T ad L) {f : Addr} (cdv : Value) (A : Around) (outer : List Env) (s : Shared) (H : Hp) (E : XK) (hr : Room L (A.deeper (envOfC (Str.ofString "value_of") (defScope st_value_of) s.heap.objs.size f cdv))) :
    QB (cxOf (L2.CX P w) P w K mg base N_value_of (Str.ofString "value_of") (defScope st_value_of) f cdv A outer s H E) cl (fun c d _ H => E c d H) (defBody st_value_of) (t_value_of T L) := by
  have S := sc_value_of
  have tk : Takes (cxOf (L2.CX P w) P w K mg base N_value_of (Str.ofString "value_of") (defScope st_value_of) f cdv A outer s H E) (fun c d _ H => E c d H) := takes_of rfl rfl rfl rfl
  have pw : PassesOwn (model P w) (A.deeper (envOfC (Str.ofString "value_of") (defScope st_value_of) s.heap.objs.size f cdv)) (envOfC (Str.ofString "value_of") (defScope st_value_of) s.heap.objs.size f cdv) (cxOf (L2.CX P w) P w K mg base N_value_of (Str.ofString "value_of") (defScope st_value_of) f cdv A outer s H E).xe := passes_of rfl
  exact (qb_cons (qs_asg (q_call tk ⟨G.f_number_of, hr⟩ rfl rfl (qa_cons (q_var (i := 0) rfl (Or.inl rfl) rfl rfl) qa_nil rfl) rfl rfl) (qg_name (i := 1) S.nd rfl (Or.inl rfl) (Or.inl rfl)) rfl rfl rfl)
    (qb_consJ (qs_if (t_w (w_and (t_gt  (q_len rfl G.b_len (qa_cons (q_var (i := 0) rfl (Or.inl rfl) rfl rfl) qa_nil rfl) rfl rfl) q_int) (w_and (t_eq hr.units (q_ix hr.units (q_var (i := 0) rfl (Or.inl rfl) rfl rfl) q_int (fun _ _ => rfl)) (q_con (v := (.str (Str.ofString "'"))) rfl G.c_QUOTE (fun _ => rfl) rfl)) (w_and1 (t_eq hr.units (q_ix hr.units (q_var (i := 0) rfl (Or.inl rfl) rfl rfl) (q_neg q_int) (fun _ _ => rfl)) (q_con (v := (.str (Str.ofString "'"))) rfl G.c_QUOTE (fun _ => rfl) rfl)))))) (qb_one (qs_asg (q_sl (q_var (i := 0) rfl (Or.inl rfl) rfl rfl) (qo_some q_int) (qo_some (q_neg q_int))) (qg_name (i := 1) S.nd rfl (Or.inl rfl) (Or.inl rfl)) rfl rfl rfl)) qb_nil)
    (qb_cons (qs_if (t_w (w_or (t_is  (q_var (i := 1) rfl (Or.inl rfl) rfl rfl) q_non) (w_or1 (t_not (t_tru (q_call tk ⟨G.f_is_value, hr⟩ rfl rfl (qa_cons (q_var (i := 1) rfl (Or.inl rfl) rfl rfl) qa_nil rfl) rfl rfl) (fun _ => rfl)))))) (qb_one (qs_raise G.ex tk rfl (by decide) G.x_NoQuestion (by decide) rfl rfl rfl)) qb_nil)
    (qb_one (qs_ret (q_var (i := 1) rfl (Or.inl rfl) rfl rfl))))))
abbrev st_law_hand : Stmt := top 27
theorem sc_law_hand : FnScope N_law_hand [(Str.ofString "script"), (Str.ofString "cell"), (Str.ofString "k")] (defScope st_law_hand) := ⟨rfl, rfl, rfl, by decide +kernel, rfl, by decide +kernel, by decide +kernel⟩
theorem d_law_hand (G : Wd P w K mg base cl T ad L) {f : Addr} (cdv : Value) (A : Around) (outer : List Env) (s : Shared) (H : Hp) (E : XK) (hr : Room L (A.deeper (envOfC (Str.ofString "_law_hand") (defScope st_law_hand) s.heap.objs.size f cdv))) :
    QB (cxOf (L2.CX P w) P w K mg base N_law_hand (Str.ofString "_law_hand") (defScope st_law_hand) f cdv A outer s H E) cl (fun c d _ H => E c d H) (defBody st_law_hand) (t_law_hand T L) := by
  have S := sc_law_hand
  have tk : Takes (cxOf (L2.CX P w) P w K mg base N_law_hand (Str.ofString "_law_hand") (defScope st_law_hand) f cdv A outer s H E) (fun c d _ H => E c d H) := takes_of rfl rfl rfl rfl
  have pw : PassesOwn (model P w) (A.deeper (envOfC (Str.ofString "_law_hand") (defScope st_law_hand) s.heap.objs.size f cdv)) (envOfC (Str.ofString "_law_hand") (defScope st_law_hand) s.heap.objs.size f cdv) (cxOf (L2.CX P w) P w K mg base N_law_hand (Str.ofString "_law_hand") (defScope st_law_hand) f cdv A outer s H E).xe := passes_of rfl
  exact (qb_cons (qs_asg q_int (qg_name (i := 3) S.nd rfl (Or.inl rfl) (Or.inl rfl)) rfl rfl rfl)
    (qb_consJ (qs_if (t_ne hr.units (q_var (i := 0) rfl (Or.inl rfl) rfl rfl) (q_lst qa_nil)) (qb_one (qs_asg (q_mod (q_sum rfl rfl G.b_sum (qa_cons (q_var (i := 0) rfl (Or.inl rfl) rfl rfl) qa_nil rfl) rfl rfl) q_int) (qg_name (i := 3) S.nd rfl (Or.inl rfl) (Or.inl rfl)) rfl rfl rfl)) qb_nil)
    (qb_one (qs_ret (q_lst (qa_cons (q_var (i := 1) rfl (Or.inl rfl) rfl rfl) (qa_cons (q_mod (q_mul (q_add (q_add (q_mod (q_var (i := 1) rfl (Or.inl rfl) rfl rfl) q_int) (q_mul q_int (q_var (i := 2) rfl (Or.inl rfl) rfl rfl))) q_int) q_int) q_int) (qa_cons (q_var (i := 3) rfl (Or.inl rfl) rfl rfl) qa_nil rfl) rfl) rfl))))))
abbrev st_law_draw : Stmt := top 28
theorem sc_law_draw : FnScope N_law_draw [(Str.ofString "hand"), (Str.ofString "limit")] (defScope st_law_draw) := ⟨rfl, rfl, rfl, by decide +kernel, rfl, by decide +kernel, by decide +kernel⟩
theorem d_law_draw (G : Wd P w K mg base cl T ad L) {f : Addr} (cdv : Value) (A : Around) (outer : List Env) (s : Shared) (H : Hp) (E : XK) (hr : Room L (A.deeper (envOfC (Str.ofString "_law_draw") (defScope st_law_draw) s.heap.objs.size f cdv))) :
    QB (cxOf (L2.CX P w) P w K mg base N_law_draw (Str.ofString "_law_draw") (defScope st_law_draw) f cdv A outer s H E) cl (fun c d _ H => E c d H) (defBody st_law_draw) (t_law_draw T L) := by
  have S := sc_law_draw
  have tk : Takes (cxOf (L2.CX P w) P w K mg base N_law_draw (Str.ofString "_law_draw") (defScope st_law_draw) f cdv A outer s H E) (fun c d _ H => E c d H) := takes_of rfl rfl rfl rfl
  have pw : PassesOwn (model P w) (A.deeper (envOfC (Str.ofString "_law_draw") (defScope st_law_draw) s.heap.objs.size f cdv)) (envOfC (Str.ofString "_law_draw") (defScope st_law_draw) s.heap.objs.size f cdv) (cxOf (L2.CX P w) P w K mg base N_law_draw (Str.ofString "_law_draw") (defScope st_law_draw) f cdv A outer s H E).xe := passes_of rfl
  exact (qb_cons (qs_if (t_eq hr.units (q_ix hr.units (q_var (i := 0) rfl (Or.inl rfl) rfl rfl) q_int (fun _ _ => rfl)) q_int) (qb_cons (qs_asg (q_mod (q_ix hr.units (q_var (i := 0) rfl (Or.inl rfl) rfl rfl) q_int (fun _ _ => rfl)) (q_var (i := 1) rfl (Or.inl rfl) rfl rfl)) (qg_name (i := 2) S.nd rfl (Or.inl rfl) (Or.inl rfl)) rfl rfl rfl)
    (qb_cons (qs_sub hr.units (q_div (q_ix hr.units (q_var (i := 0) rfl (Or.inl rfl) rfl rfl) q_int (fun _ _ => rfl)) (q_var (i := 1) rfl (Or.inl rfl) rfl rfl)) (q_var (i := 0) rfl (Or.inl rfl) rfl rfl) q_int (fun _ => rfl) rfl rfl rfl)
    (qb_one (qs_ret (q_var (i := 2) rfl (Or.inl rfl) rfl rfl))))) qb_nil)
    (qb_cons (qs_sub hr.units (q_add (q_mod (q_mul (q_ix hr.units (q_var (i := 0) rfl (Or.inl rfl) rfl rfl) q_int (fun _ _ => rfl)) (q_ix hr.units (q_var (i := 0) rfl (Or.inl rfl) rfl rfl) q_int (fun _ _ => rfl))) q_int) q_int) (q_var (i := 0) rfl (Or.inl rfl) rfl rfl) q_int (fun _ => rfl) rfl rfl rfl)
    (qb_one (qs_ret (q_mod (q_div (q_mod (q_mul (q_ix hr.units (q_var (i := 0) rfl (Or.inl rfl) rfl rfl) q_int (fun _ _ => rfl)) q_int) q_int) q_int) (q_var (i := 1) rfl (Or.inl rfl) rfl rfl))))))
abbrev st_law_text : Stmt := top 29
theorem sc_law_text : FnScope N_law_text [(Str.ofString "hand"), (Str.ofString "most")] (defScope st_law_text) := ⟨rfl, rfl, rfl, by decide +kernel, rfl, by decide +kernel, by decide +kernel⟩
theorem d_law_text (G : Wd P w K mg base cl T ad L) {f : Addr} (cdv : Value) (A : Around) (outer : List Env) (s : Shared) (H : Hp) (E : XK) (hr : Room L (A.deeper (envOfC (Str.ofString "_law_text") (defScope st_law_text) s.heap.objs.size f cdv))) :
    QB (cxOf (L2.CX P w) P w K mg base N_law_text (Str.ofString "_law_text") (defScope st_law_text) f cdv A outer s H E) cl (fun c d _ H => E c d H) (defBody st_law_text) (t_law_text T L) := by
  have S := sc_law_text
  have tk : Takes (cxOf (L2.CX P w) P w K mg base N_law_text (Str.ofString "_law_text") (defScope st_law_text) f cdv A outer s H E) (fun c d _ H => E c d H) := takes_of rfl rfl rfl rfl
  have pw : PassesOwn (model P w) (A.deeper (envOfC (Str.ofString "_law_text") (defScope st_law_text) s.heap.objs.size f cdv)) (envOfC (Str.ofString "_law_text") (defScope st_law_text) s.heap.objs.size f cdv) (cxOf (L2.CX P w) P w K mg base N_law_text (Str.ofString "_law_text") (defScope st_law_text) f cdv A outer s H E).xe := passes_of rfl
  exact (qb_cons (qs_asg q_str (qg_name (i := 2) S.nd rfl (Or.inl rfl) (Or.inl rfl)) rfl rfl rfl)
    (qb_cons (qs_asg q_str (qg_name (i := 3) S.nd rfl (Or.inl rfl) (Or.inl rfl)) rfl rfl rfl)
    (qb_cons (qs_for pw rfl (qi_rng1 rfl G.b_range (qa_cons (q_call tk ⟨G.f__law_draw, hr⟩ rfl rfl (qa_cons (q_var (i := 0) rfl (Or.inl rfl) rfl rfl) (qa_cons (q_add (q_var (i := 1) rfl (Or.inl rfl) rfl rfl) q_int) qa_nil rfl) rfl) rfl rfl) qa_nil rfl) rfl) (qg_name (i := 4) S.nd rfl (Or.inl rfl) (Or.inl rfl)) (qb_one (qs_asg (q_add (q_var (i := 3) rfl (Or.inl rfl) rfl rfl) (q_ix hr.units (q_var (i := 2) rfl (Or.inl rfl) rfl rfl) (q_call tk ⟨G.f__law_draw, hr⟩ rfl rfl (qa_cons (q_var (i := 0) rfl (Or.inl rfl) rfl rfl) (qa_cons (q_len rfl G.b_len (qa_cons (q_var (i := 2) rfl (Or.inl rfl) rfl rfl) qa_nil rfl) rfl rfl) qa_nil rfl) rfl) rfl rfl) (fun _ _ => rfl))) (qg_name (i := 3) S.nd rfl (Or.inl rfl) (Or.inl rfl)) rfl rfl rfl)) (fun _ => rfl))
    (qb_one (qs_ret (q_var (i := 3) rfl (Or.inl rfl) rfl rfl))))))
abbrev st_law_value : Stmt := top 30
theorem sc_law_value : FnScope N_law_value [(Str.ofString "hand")] (defScope st_law_value) := ⟨rfl, rfl, rfl, by decide +kernel, rfl, by decide +kernel, by decide +kernel⟩
theorem d_law_value (G : Wd P w K mg base cl T ad L) {f : Addr} (cdv : Value) (A : Around) (outer : List Env) (s : Shared) (H : Hp) (E : XK) (hr : Room L (A.deeper (envOfC (Str.ofString "_law_value") (defScope st_law_value) s.heap.objs.size f cdv))) :
    QB (cxOf (L2.CX P w) P w K mg base N_law_value (Str.ofString "_law_value") (defScope st_law_value) f cdv A outer s H E) cl (fun c d _ H => E c d H) (defBody st_law_value) (t_law_value T L) := by
  have S := sc_law_value
  have tk : Takes (cxOf (L2.CX P w) P w K mg base N_law_value (Str.ofString "_law_value") (defScope st_law_value) f cdv A outer s H E) (fun c d _ H => E c d H) := takes_of rfl rfl rfl rfl
  have pw : PassesOwn (model P w) (A.deeper (envOfC (Str.ofString "_law_value") (defScope st_law_value) s.heap.objs.size f cdv)) (envOfC (Str.ofString "_law_value") (defScope st_law_value) s.heap.objs.size f cdv) (cxOf (L2.CX P w) P w K mg base N_law_value (Str.ofString "_law_value") (defScope st_law_value) f cdv A outer s H E).xe := passes_of rfl
  exact (qb_cons (qs_asg (q_call tk ⟨G.f__law_draw, hr⟩ rfl rfl (qa_cons (q_var (i := 0) rfl (Or.inl rfl) rfl rfl) (qa_cons q_int qa_nil rfl) rfl) rfl rfl) (qg_name (i := 1) S.nd rfl (Or.inl rfl) (Or.inl rfl)) rfl rfl rfl)
    (qb_cons (qs_if (t_eq hr.units (q_var (i := 1) rfl (Or.inl rfl) rfl rfl) q_int) (qb_one (qs_ret (q_sub (q_call tk ⟨G.f__law_draw, hr⟩ rfl rfl (qa_cons (q_var (i := 0) rfl (Or.inl rfl) rfl rfl) (qa_cons (q_add (q_mul q_int (q_pow q_int q_int)) q_int) qa_nil rfl) rfl) rfl rfl) (q_pow q_int q_int)))) qb_nil)
    (qb_cons (qs_if (t_eq hr.units (q_var (i := 1) rfl (Or.inl rfl) rfl rfl) q_int) (qb_one (qs_ret (q_call tk ⟨G.f__law_text, hr⟩ rfl rfl (qa_cons (q_var (i := 0) rfl (Or.inl rfl) rfl rfl) (qa_cons (q_ix hr.units (q_lst (qa_cons q_int (qa_cons q_int qa_nil rfl) rfl)) (q_call tk ⟨G.f__law_draw, hr⟩ rfl rfl (qa_cons (q_var (i := 0) rfl (Or.inl rfl) rfl rfl) (qa_cons q_int qa_nil rfl) rfl) rfl rfl) (fun _ _ => rfl)) qa_nil rfl) rfl) rfl rfl))) qb_nil)
    (qb_cons (qs_if (t_eq hr.units (q_var (i := 1) rfl (Or.inl rfl) rfl rfl) q_int) (qb_one (qs_ret (q_ix hr.units (q_lst (qa_cons q_str (qa_cons q_str (qa_cons q_str (qa_cons q_str (qa_cons q_str (qa_cons q_str (qa_cons q_str (qa_cons q_str qa_nil rfl) rfl) rfl) rfl) rfl) rfl) rfl) rfl)) (q_call tk ⟨G.f__law_draw, hr⟩ rfl rfl (qa_cons (q_var (i := 0) rfl (Or.inl rfl) rfl rfl) (qa_cons q_int qa_nil rfl) rfl) rfl rfl) (fun _ _ => rfl)))) qb_nil)
    (qb_one (qs_ret (q_ix hr.units (q_lst (qa_cons q_int (qa_cons q_int (qa_cons q_int (qa_cons q_int (qa_cons (q_neg q_int) (qa_cons (q_neg q_int) (qa_cons (q_pow q_int q_int) (qa_cons (q_sub q_int (q_pow q_int q_int)) qa_nil rfl) rfl) rfl) rfl) rfl) rfl) rfl) rfl)) (q_call tk ⟨G.f__law_draw, hr⟩ rfl rfl (qa_cons (q_var (i := 0) rfl (Or.inl rfl) rfl rfl) (qa_cons q_int qa_nil rfl) rfl) rfl rfl) (fun _ _ => rfl))))))))
abbrev st_law_refused : Stmt := top 31
theorem sc_law_refused : FnScope N_law_refused [(Str.ofString "caught")] (defScope st_law_refused) := ⟨rfl, rfl, rfl, by decide +kernel, rfl, by decide +kernel, by decide +kernel⟩
theorem d_law_refused (G : Wd P w K mg base cl T ad L) {f : Addr} (cdv : Value) (A : Around) (outer : List Env) (s : Shared) (H : Hp) (E : XK) (hr : Room L (A.deeper (envOfC (Str.ofString "_law_refused") (defScope st_law_refused) s.heap.objs.size f cdv))) :
    QB (cxOf (L2.CX P w) P w K mg base N_law_refused (Str.ofString "_law_refused") (defScope st_law_refused) f cdv A outer s H E) cl (fun c d _ H => E c d H) (defBody st_law_refused) (t_law_refused T L) := by
  have S := sc_law_refused
  have tk : Takes (cxOf (L2.CX P w) P w K mg base N_law_refused (Str.ofString "_law_refused") (defScope st_law_refused) f cdv A outer s H E) (fun c d _ H => E c d H) := takes_of rfl rfl rfl rfl
  have pw : PassesOwn (model P w) (A.deeper (envOfC (Str.ofString "_law_refused") (defScope st_law_refused) s.heap.objs.size f cdv)) (envOfC (Str.ofString "_law_refused") (defScope st_law_refused) s.heap.objs.size f cdv) (cxOf (L2.CX P w) P w K mg base N_law_refused (Str.ofString "_law_refused") (defScope st_law_refused) f cdv A outer s H E).xe := passes_of rfl
  exact (qb_cons (qs_if (t_tru (q_isxT G.ex rfl G.b_isinstance (q_var (i := 0) rfl (Or.inl rfl) rfl rfl) (cs_cons G.ex rfl G.x_BadThing (by decide) rfl rfl (cs_cons G.ex rfl G.x_Clash (by decide) rfl rfl (cs_cons G.ex rfl G.x_NoColumn (by decide) rfl rfl (cs_cons G.ex rfl G.x_NoName (by decide) rfl rfl (cs_cons G.ex rfl G.x_NoPaper (by decide) rfl rfl (cs_cons G.ex rfl G.x_NoPlan (by decide) rfl rfl (cs_cons G.ex rfl G.x_NoRow (by decide) rfl rfl (cs_cons G.ex rfl G.x_NoState (by decide) rfl rfl (cs_cons G.ex rfl G.x_NoStep (by decide) rfl rfl (cs_cons G.ex rfl G.x_NoTable (by decide) rfl rfl (cs_cons G.ex rfl G.x_NotSo (by decide) rfl rfl cs_nil rfl) rfl) rfl) rfl) rfl) rfl) rfl) rfl) rfl) rfl) rfl) (by decide) rfl rfl rfl) (fun _ => rfl)) (qb_one (qs_ret q_bl)) qb_nil)
    (qb_one (qs_ret (q_and (q_isx1 G.ex rfl G.x_NoQuestion (by decide) rfl rfl rfl G.b_isinstance (q_var (i := 0) rfl (Or.inl rfl) rfl rfl) rfl rfl rfl) (q_one (q_isxV G.ex rfl G.b_ValueError rfl G.b_isinstance (q_var (i := 0) rfl (Or.inl rfl) rfl rfl) rfl rfl rfl))))))
abbrev st_law_parted : Stmt := top 32
theorem sc_law_parted : FnScope N_law_parted [(Str.ofString "text")] (defScope st_law_parted) := ⟨rfl, rfl, rfl, by decide +kernel, rfl, by decide +kernel, by decide +kernel⟩
theorem d_law_parted (G : Wd P w K mg base cl T ad L) {f : Addr} (cdv : Value) (A : Around) (outer : List Env) (s : Shared) (H : Hp) (E : XK) (hr : Room L (A.deeper (envOfC (Str.ofString "_law_parted") (defScope st_law_parted) s.heap.objs.size f cdv))) :
    QB (cxOf (L2.CX P w) P w K mg base N_law_parted (Str.ofString "_law_parted") (defScope st_law_parted) f cdv A outer s H E) cl (fun c d _ H => E c d H) (defBody st_law_parted) (t_law_parted T L) := by
  have S := sc_law_parted
  have tk : Takes (cxOf (L2.CX P w) P w K mg base N_law_parted (Str.ofString "_law_parted") (defScope st_law_parted) f cdv A outer s H E) (fun c d _ H => E c d H) := takes_of rfl rfl rfl rfl
  have pw : PassesOwn (model P w) (A.deeper (envOfC (Str.ofString "_law_parted") (defScope st_law_parted) s.heap.objs.size f cdv)) (envOfC (Str.ofString "_law_parted") (defScope st_law_parted) s.heap.objs.size f cdv) (cxOf (L2.CX P w) P w K mg base N_law_parted (Str.ofString "_law_parted") (defScope st_law_parted) f cdv A outer s H E).xe := passes_of rfl
  exact (qb_cons (qs_asg (q_lst qa_nil) (qg_name (i := 1) S.nd rfl (Or.inl rfl) (Or.inl rfl)) rfl rfl rfl)
    (qb_cons (qs_asg q_bl (qg_name (i := 2) S.nd rfl (Or.inl rfl) (Or.inl rfl)) rfl rfl rfl)
    (qb_cons (qs_for pw rfl (qi_seq (q_mt (T := "str") (id := "str.split") PySem.F.plainAttrs_str PySem.F.slot_str_split PySem.F.type_str_split mt_split up_split mono_split (q_var (i := 0) rfl (Or.inl rfl) rfl rfl) (qa_cons q_str qa_nil rfl) rfl rfl rfl rfl rfl)) (qg_name (i := 3) S.nd rfl (Or.inl rfl) (Or.inl rfl)) (qb_consJ (qs_if (t_tru (q_var (i := 2) rfl (Or.inl rfl) rfl rfl) (fun _ => rfl)) (qb_one (qs_sub hr.units (q_add (q_add (q_ix hr.units (q_var (i := 1) rfl (Or.inl rfl) rfl rfl) (q_neg q_int) (fun _ _ => rfl)) q_str) (q_var (i := 3) rfl (Or.inl rfl) rfl rfl)) (q_var (i := 1) rfl (Or.inl rfl) rfl rfl) (q_neg q_int) (fun _ => rfl) rfl rfl rfl)) (qb_one (qs_exp (q_mt (T := "list") (id := "list.append") PySem.F.plainAttrs_list PySem.F.slot_list_append PySem.F.type_list_append mt_append up_append mono_append (q_var (i := 1) rfl (Or.inl rfl) rfl rfl) (qa_cons (q_var (i := 3) rfl (Or.inl rfl) rfl rfl) qa_nil rfl) rfl rfl rfl rfl rfl) rfl)))
    (qb_one (qs_asg (q_and (q_eq hr.units (q_sl (q_ix hr.units (q_var (i := 1) rfl (Or.inl rfl) rfl rfl) (q_neg q_int) (fun _ _ => rfl)) qo_none (qo_some q_int)) q_str) (q_one (q_or (q_eq hr.units (q_len rfl G.b_len (qa_cons (q_ix hr.units (q_var (i := 1) rfl (Or.inl rfl) rfl rfl) (q_neg q_int) (fun _ _ => rfl)) qa_nil rfl) rfl rfl) q_int) (q_one (q_ne hr.units (q_ix hr.units (q_ix hr.units (q_var (i := 1) rfl (Or.inl rfl) rfl rfl) (q_neg q_int) (fun _ _ => rfl)) (q_neg q_int) (fun _ _ => rfl)) q_str))))) (qg_name (i := 2) S.nd rfl (Or.inl rfl) (Or.inl rfl)) rfl rfl rfl))) (fun _ => rfl))
    (qb_cons (qs_for pw rfl (qi_seq (q_var (i := 1) rfl (Or.inl rfl) rfl rfl)) (qg_name (i := 4) S.nd rfl (Or.inl rfl) (Or.inl rfl)) (qb_cons (qs_asg (q_mt (T := "str") (id := "str.count") PySem.F.plainAttrs_str PySem.F.slot_str_count PySem.F.type_str_count mt_count up_cntS mono_cntS (q_var (i := 4) rfl (Or.inl rfl) rfl rfl) (qa_cons q_str qa_nil rfl) rfl rfl rfl rfl rfl) (qg_name (i := 5) S.nd rfl (Or.inl rfl) (Or.inl rfl)) rfl rfl rfl)
    (qb_one (qs_if (t_w (w_or (t_eq hr.units (q_var (i := 4) rfl (Or.inl rfl) rfl rfl) q_str) (w_or1 (t_w (w_and (t_ne hr.units (q_var (i := 5) rfl (Or.inl rfl) rfl rfl) q_int) (w_and1 (t_w (w_or (t_ne hr.units (q_var (i := 5) rfl (Or.inl rfl) rfl rfl) q_int) (w_or (t_ne hr.units (q_ix hr.units (q_var (i := 4) rfl (Or.inl rfl) rfl rfl) q_int (fun _ _ => rfl)) q_str) (w_or1 (t_ne hr.units (q_ix hr.units (q_var (i := 4) rfl (Or.inl rfl) rfl rfl) (q_neg q_int) (fun _ _ => rfl)) q_str))))))))))) (qb_one (qs_ret q_non)) qb_nil))) (fun _ => rfl))
    (qb_one (qs_ret (q_var (i := 1) rfl (Or.inl rfl) rfl rfl)))))))
abbrev st_law_worth : Stmt := top 33
theorem sc_law_worth : FnScope N_law_worth [(Str.ofString "word")] (defScope st_law_worth) := ⟨rfl, rfl, rfl, by decide +kernel, rfl, by decide +kernel, by decide +kernel⟩
theorem d_law_worth (G : Wd P w K mg base cl T ad L) {f : Addr} (cdv : Value) (A : Around) (outer : List Env) (s : Shared) (H : Hp) (E : XK) (hr : Room L (A.deeper (envOfC (Str.ofString "_law_worth") (defScope st_law_worth) s.heap.objs.size f cdv))) :
    QB (cxOf (L2.CX P w) P w K mg base N_law_worth (Str.ofString "_law_worth") (defScope st_law_worth) f cdv A outer s H E) cl (fun c d _ H => E c d H) (defBody st_law_worth) (t_law_worth T L) := by
  have S := sc_law_worth
  have tk : Takes (cxOf (L2.CX P w) P w K mg base N_law_worth (Str.ofString "_law_worth") (defScope st_law_worth) f cdv A outer s H E) (fun c d _ H => E c d H) := takes_of rfl rfl rfl rfl
  have pw : PassesOwn (model P w) (A.deeper (envOfC (Str.ofString "_law_worth") (defScope st_law_worth) s.heap.objs.size f cdv)) (envOfC (Str.ofString "_law_worth") (defScope st_law_worth) s.heap.objs.size f cdv) (cxOf (L2.CX P w) P w K mg base N_law_worth (Str.ofString "_law_worth") (defScope st_law_worth) f cdv A outer s H E).xe := passes_of rfl
  exact (qb_cons (qs_if (t_w (w_and (t_gt  (q_len rfl G.b_len (qa_cons (q_var (i := 0) rfl (Or.inl rfl) rfl rfl) qa_nil rfl) rfl rfl) q_int) (w_and (t_eq hr.units (q_ix hr.units (q_var (i := 0) rfl (Or.inl rfl) rfl rfl) q_int (fun _ _ => rfl)) q_str) (w_and1 (t_eq hr.units (q_ix hr.units (q_var (i := 0) rfl (Or.inl rfl) rfl rfl) (q_neg q_int) (fun _ _ => rfl)) q_str))))) (qb_cons (qs_asg (q_sl (q_var (i := 0) rfl (Or.inl rfl) rfl rfl) (qo_some q_int) (qo_some (q_neg q_int))) (qg_name (i := 1) S.nd rfl (Or.inl rfl) (Or.inl rfl)) rfl rfl rfl)
    (qb_cons (qs_lc (n := 2) rfl S.nd rfl rfl (sw_true rfl rfl rfl (by decide +kernel)) (qi_seq (q_var (i := 1) rfl (Or.inl rfl) rfl rfl)) (blkOk_by (own := [((Str.ofString "sign"), 4)]) (N := N_law_worth) (sc := defScope st_law_worth) (by decide +kernel)) (fun _ _ _ _ _ => (pg_name (i := 4) S.nd rfl (Or.inl rfl) (Or.inr rfl))) (fun _ _ _ _ _ => qts_one (t_w (w_or (t_lt hr.units (q_var (i := 4) rfl (Or.inl rfl) rfl rfl) q_str) (w_or (t_gtS  (q_var (i := 4) rfl (Or.inl rfl) rfl rfl) q_str) (w_or (t_in (room66 hr) (q_var (i := 4) rfl (Or.inl rfl) rfl rfl) q_str rfl) (w_or1 (t_chain op_lt op_lt (by decide) (by decide) q_int (q_ord rfl G.b_ord (qa_cons (q_var (i := 4) rfl (Or.inl rfl) rfl rfl) qa_nil rfl) rfl rfl) q_int))))))) (fun _ _ _ _ _ => (q_var (i := 4) rfl (Or.inl rfl) rfl rfl)) (fun _ => rfl))
    (qb_one (qs_ret (q_ix hr.units (q_lst (qa_cons (q_lst (qa_cons (q_var (i := 1) rfl (Or.inl rfl) rfl rfl) qa_nil rfl)) (qa_cons (q_lst qa_nil) qa_nil rfl) rfl)) (q_int1 rfl G.b_int (qa_cons (q_or (q_gt  (q_len rfl G.b_len (qa_cons (q_var (i := 1) rfl (Or.inl rfl) rfl rfl) qa_nil rfl) rfl rfl) q_int) (q_one (q_ne hr.units (q_var (i := 2) rfl (Or.inl rfl) rfl rfl) (q_lst qa_nil)))) qa_nil rfl) rfl rfl) (fun _ _ => rfl)))))) qb_nil)
    (qb_cons (qs_asg (q_sl (q_var (i := 0) rfl (Or.inl rfl) rfl rfl) (qo_some (q_int1 rfl G.b_int (qa_cons (q_eq hr.units (q_ix hr.units (q_var (i := 0) rfl (Or.inl rfl) rfl rfl) q_int (fun _ _ => rfl)) q_str) qa_nil rfl) rfl rfl)) qo_none) (qg_name (i := 3) S.nd rfl (Or.inl rfl) (Or.inl rfl)) rfl rfl rfl)
    (qb_cons (qs_if (t_w (w_or (t_eq hr.units (q_var (i := 3) rfl (Or.inl rfl) rfl rfl) q_str) (w_or1 (t_ne hr.units (q_lc rfl S.nd (qi_seq (q_var (i := 3) rfl (Or.inl rfl) rfl rfl)) (blkOk_by (own := [((Str.ofString "sign"), 4)]) (N := N_law_worth) (sc := defScope st_law_worth) (by decide +kernel)) (fun _ _ _ _ _ => (pg_name (i := 4) S.nd rfl (Or.inl rfl) (Or.inr rfl))) (fun _ _ _ _ _ => qts_one (t_notin (room66 hr) (q_var (i := 4) rfl (Or.inl rfl) rfl rfl) q_str rfl)) (fun _ _ _ _ _ => (q_var (i := 4) rfl (Or.inl rfl) rfl rfl)) (fun _ => rfl)) (q_lst qa_nil))))) (qb_one (qs_ret (q_lst qa_nil))) qb_nil)
    (qb_cons (qs_if (t_w (w_or (t_w (w_and (t_eq hr.units (q_ix hr.units (q_var (i := 3) rfl (Or.inl rfl) rfl rfl) q_int (fun _ _ => rfl)) q_str) (w_and1 (t_ne hr.units (q_var (i := 0) rfl (Or.inl rfl) rfl rfl) q_str)))) (w_or (t_gt  (q_len rfl G.b_len (qa_cons (q_var (i := 3) rfl (Or.inl rfl) rfl rfl) qa_nil rfl) rfl rfl) q_int) (w_or1 (t_gt  (q_int1 rfl G.b_int (qa_cons (q_var (i := 3) rfl (Or.inl rfl) rfl rfl) qa_nil rfl) rfl rfl) (q_pow q_int q_int)))))) (qb_one (qs_ret (q_lst qa_nil))) qb_nil)
    (qb_one (qs_ret (q_lst (qa_cons (q_int1 rfl G.b_int (qa_cons (q_var (i := 0) rfl (Or.inl rfl) rfl rfl) qa_nil rfl) rfl rfl) qa_nil rfl))))))))
abbrev st_law_words_right : Stmt := top 34
theorem sc_law_words_right : FnScope N_law_words_right [(Str.ofString "thing")] (defScope st_law_words_right) := ⟨rfl, rfl, rfl, by decide +kernel, rfl, by decide +kernel, by decide +kernel⟩
theorem d_law_words_right (G : Wd P w K mg base cl T ad L) {f : Addr} (cdv : Value) (A : Around) (outer : List Env) (s : Shared) (H : Hp) (E : XK) (hr : Room L (A.deeper (envOfC (Str.ofString "_law_words_right") (defScope st_law_words_right) s.heap.objs.size f cdv))) :
    QB (cxOf (L2.CX P w) P w K mg base N_law_words_right (Str.ofString "_law_words_right") (defScope st_law_words_right) f cdv A outer s H E) cl (fun c d _ H => E c d H) (defBody st_law_words_right) (t_law_words_right T L) := by
  have S := sc_law_words_right
  have tk : Takes (cxOf (L2.CX P w) P w K mg base N_law_words_right (Str.ofString "_law_words_right") (defScope st_law_words_right) f cdv A outer s H E) (fun c d _ H => E c d H) := takes_of rfl rfl rfl rfl
  have pw : PassesOwn (model P w) (A.deeper (envOfC (Str.ofString "_law_words_right") (defScope st_law_words_right) s.heap.objs.size f cdv)) (envOfC (Str.ofString "_law_words_right") (defScope st_law_words_right) s.heap.objs.size f cdv) (cxOf (L2.CX P w) P w K mg base N_law_words_right (Str.ofString "_law_words_right") (defScope st_law_words_right) f cdv A outer s H E).xe := passes_of rfl
  exact (qb_cons (qs_asg (q_call tk ⟨G.f__law_parted, hr⟩ rfl rfl (qa_cons (q_var (i := 0) rfl (Or.inl rfl) rfl rfl) qa_nil rfl) rfl rfl) (qg_name (i := 1) S.nd rfl (Or.inl rfl) (Or.inl rfl)) rfl rfl rfl)
    (qb_cons (qs_asg q_non (qg_name (i := 2) S.nd rfl (Or.inl rfl) (Or.inl rfl)) rfl rfl rfl)
    (qb_cons (qs_asg q_non (qg_name (i := 3) S.nd rfl (Or.inl rfl) (Or.inl rfl)) rfl rfl rfl)
    (qb_consJ (qs_try G.ex rfl rfl rfl S.nd tk pw (fun W pn xe tk pw => (qb_one (qs_asg (q_call tk ⟨G.f_words_in, hr⟩ rfl rfl (qa_cons (q_var (i := 0) rfl (Or.inl rfl) rfl rfl) qa_nil rfl) rfl rfl) (qg_name (i := 3) S.nd rfl (Or.inl rfl) (Or.inl rfl)) rfl rfl rfl))) (QH.consAs (i := 4) (by decide) G.x_VaultError rfl rfl rfl rfl rfl (fun a pn => (qb_one (qs_asg (q_var (i := 4) rfl (Or.inl rfl) rfl rfl) (qg_name (i := 2) S.nd rfl (Or.inl rfl) (Or.inl rfl)) rfl rfl rfl))) QH.nil))
    (qb_cons (qs_if (t_is  (q_var (i := 1) rfl (Or.inl rfl) rfl rfl) q_non) (qb_one (qs_ret (q_call tk ⟨G.f__law_refused, hr⟩ rfl rfl (qa_cons (q_var (i := 2) rfl (Or.inl rfl) rfl rfl) qa_nil rfl) rfl rfl))) qb_nil)
    (qb_cons (qs_if (t_w (w_or (t_not (t_tru (q_isi rfl G.b_isinstance (qa_cons (q_var (i := 3) rfl (Or.inl rfl) rfl rfl) (qa_cons (q_ty (by decide +kernel) (by decide) rfl rfl G.b_list) qa_nil rfl) rfl) rfl rfl) (fun _ => rfl))) (w_or1 (t_ne hr.units (q_var (i := 3) rfl (Or.inl rfl) rfl rfl) (q_var (i := 1) rfl (Or.inl rfl) rfl rfl))))) (qb_one (qs_ret q_bl)) qb_nil)
    (qb_cons (qs_exp (q_mt (T := "list") (id := "list.append") PySem.F.plainAttrs_list PySem.F.slot_list_append PySem.F.type_list_append mt_append up_append mono_append (q_var (i := 3) rfl (Or.inl rfl) rfl rfl) (qa_cons q_str qa_nil rfl) rfl rfl rfl rfl rfl) rfl)
    (qb_one (qs_ret (q_eq hr.units (q_call tk ⟨G.f_words_in, hr⟩ rfl rfl (qa_cons (q_var (i := 0) rfl (Or.inl rfl) rfl rfl) qa_nil rfl) rfl rfl) (q_var (i := 1) rfl (Or.inl rfl) rfl rfl)))))))))))
abbrev st_law_value_right : Stmt := top 35
theorem sc_law_value_right : FnScope N_law_value_right [(Str.ofString "word")] (defScope st_law_value_right) := ⟨rfl, rfl, rfl, by decide +kernel, rfl, by decide +kernel, by decide +kernel⟩
theorem d_law_value_right (G : Wd P w K mg base cl T ad L) {f : Addr} (cdv : Value) (A : Around) (outer : List Env) (s : Shared) (H : Hp) (E : XK) (hr : Room L (A.deeper (envOfC (Str.ofString "_law_value_right") (defScope st_law_value_right) s.heap.objs.size f cdv))) :
    QB (cxOf (L2.CX P w) P w K mg base N_law_value_right (Str.ofString "_law_value_right") (defScope st_law_value_right) f cdv A outer s H E) cl (fun c d _ H => E c d H) (defBody st_law_value_right) (t_law_value_right T L) := by
  have S := sc_law_value_right
  have tk : Takes (cxOf (L2.CX P w) P w K mg base N_law_value_right (Str.ofString "_law_value_right") (defScope st_law_value_right) f cdv A outer s H E) (fun c d _ H => E c d H) := takes_of rfl rfl rfl rfl
  have pw : PassesOwn (model P w) (A.deeper (envOfC (Str.ofString "_law_value_right") (defScope st_law_value_right) s.heap.objs.size f cdv)) (envOfC (Str.ofString "_law_value_right") (defScope st_law_value_right) s.heap.objs.size f cdv) (cxOf (L2.CX P w) P w K mg base N_law_value_right (Str.ofString "_law_value_right") (defScope st_law_value_right) f cdv A outer s H E).xe := passes_of rfl
  exact (qb_cons (qs_asg (q_call tk ⟨G.f__law_worth, hr⟩ rfl rfl (qa_cons (q_var (i := 0) rfl (Or.inl rfl) rfl rfl) qa_nil rfl) rfl rfl) (qg_name (i := 1) S.nd rfl (Or.inl rfl) (Or.inl rfl)) rfl rfl rfl)
    (qb_cons (qs_asg q_non (qg_name (i := 2) S.nd rfl (Or.inl rfl) (Or.inl rfl)) rfl rfl rfl)
    (qb_cons (qs_asg q_non (qg_name (i := 3) S.nd rfl (Or.inl rfl) (Or.inl rfl)) rfl rfl rfl)
    (qb_consJ (qs_try G.ex rfl rfl rfl S.nd tk pw (fun W pn xe tk pw => (qb_one (qs_asg (q_call tk ⟨G.f_value_of, hr⟩ rfl rfl (qa_cons (q_var (i := 0) rfl (Or.inl rfl) rfl rfl) qa_nil rfl) rfl rfl) (qg_name (i := 3) S.nd rfl (Or.inl rfl) (Or.inl rfl)) rfl rfl rfl))) (QH.consAs (i := 4) (by decide) G.x_VaultError rfl rfl rfl rfl rfl (fun a pn => (qb_one (qs_asg (q_var (i := 4) rfl (Or.inl rfl) rfl rfl) (qg_name (i := 2) S.nd rfl (Or.inl rfl) (Or.inl rfl)) rfl rfl rfl))) QH.nil))
    (qb_cons (qs_if (t_eq hr.units (q_var (i := 1) rfl (Or.inl rfl) rfl rfl) (q_lst qa_nil)) (qb_one (qs_ret (q_call tk ⟨G.f__law_refused, hr⟩ rfl rfl (qa_cons (q_var (i := 2) rfl (Or.inl rfl) rfl rfl) qa_nil rfl) rfl rfl))) qb_nil)
    (qb_cons (qs_if (t_w (w_or (t_isnot  (q_var (i := 2) rfl (Or.inl rfl) rfl rfl) q_non) (w_or (t_tru (q_isi rfl G.b_isinstance (qa_cons (q_var (i := 3) rfl (Or.inl rfl) rfl rfl) (qa_cons (q_ty (by decide +kernel) (by decide) rfl rfl G.b_bool) qa_nil rfl) rfl) rfl rfl) (fun _ => rfl)) (w_or1 (t_ne hr.units (q_isi rfl G.b_isinstance (qa_cons (q_var (i := 3) rfl (Or.inl rfl) rfl rfl) (qa_cons (q_ty (by decide +kernel) (by decide) rfl rfl G.b_str) qa_nil rfl) rfl) rfl rfl) (q_isi rfl G.b_isinstance (qa_cons (q_ix hr.units (q_var (i := 1) rfl (Or.inl rfl) rfl rfl) q_int (fun _ _ => rfl)) (qa_cons (q_ty (by decide +kernel) (by decide) rfl rfl G.b_str) qa_nil rfl) rfl) rfl rfl)))))) (qb_one (qs_ret q_bl)) qb_nil)
    (qb_one (qs_ret (q_eq hr.units (q_var (i := 3) rfl (Or.inl rfl) rfl rfl) (q_ix hr.units (q_var (i := 1) rfl (Or.inl rfl) rfl rfl) q_int (fun _ _ => rfl)))))))))))
abbrev st_law_piece : Stmt := top 36
theorem sc_law_piece : FnScope N_law_piece [(Str.ofString "hand")] (defScope st_law_piece) := ⟨rfl, rfl, rfl, by decide +kernel, rfl, by decide +kernel, by decide +kernel⟩
theorem d_law_piece (G : Wd P w K mg base cl T ad L) {f : Addr} (cdv : Value) (A : Around) (outer : List Env) (s : Shared) (H : Hp) (E : XK) (hr : Room L (A.deeper (envOfC (Str.ofString "_law_piece") (defScope st_law_piece) s.heap.objs.size f cdv))) :
    QB (cxOf (L2.CX P w) P w K mg base N_law_piece (Str.ofString "_law_piece") (defScope st_law_piece) f cdv A outer s H E) cl (fun c d _ H => E c d H) (defBody st_law_piece) (t_law_piece T L) := by
  have S := sc_law_piece
  have tk : Takes (cxOf (L2.CX P w) P w K mg base N_law_piece (Str.ofString "_law_piece") (defScope st_law_piece) f cdv A outer s H E) (fun c d _ H => E c d H) := takes_of rfl rfl rfl rfl
  have pw : PassesOwn (model P w) (A.deeper (envOfC (Str.ofString "_law_piece") (defScope st_law_piece) s.heap.objs.size f cdv)) (envOfC (Str.ofString "_law_piece") (defScope st_law_piece) s.heap.objs.size f cdv) (cxOf (L2.CX P w) P w K mg base N_law_piece (Str.ofString "_law_piece") (defScope st_law_piece) f cdv A outer s H E).xe := passes_of rfl
  exact (qb_cons (qs_asg (q_call tk ⟨G.f__law_draw, hr⟩ rfl rfl (qa_cons (q_var (i := 0) rfl (Or.inl rfl) rfl rfl) (qa_cons q_int qa_nil rfl) rfl) rfl rfl) (qg_name (i := 1) S.nd rfl (Or.inl rfl) (Or.inl rfl)) rfl rfl rfl)
    (qb_cons (qs_if (t_lt hr.units (q_var (i := 1) rfl (Or.inl rfl) rfl rfl) q_int) (qb_one (qs_ret (q_ix hr.units (q_lst (qa_cons q_str (qa_cons q_str (qa_cons q_str (qa_cons q_str (qa_cons q_str (qa_cons q_str (qa_cons q_str (qa_cons q_str qa_nil rfl) rfl) rfl) rfl) rfl) rfl) rfl) rfl)) (q_call tk ⟨G.f__law_draw, hr⟩ rfl rfl (qa_cons (q_var (i := 0) rfl (Or.inl rfl) rfl rfl) (qa_cons q_int qa_nil rfl) rfl) rfl rfl) (fun _ _ => rfl)))) qb_nil)
    (qb_cons (qs_if (t_lt hr.units (q_var (i := 1) rfl (Or.inl rfl) rfl rfl) q_int) (qb_one (qs_ret (q_add (q_add q_str (q_call tk ⟨G.f__law_text, hr⟩ rfl rfl (qa_cons (q_var (i := 0) rfl (Or.inl rfl) rfl rfl) (qa_cons q_int qa_nil rfl) rfl) rfl rfl)) q_str))) qb_nil)
    (qb_one (qs_ret (q_ix hr.units (q_lst (qa_cons q_str (qa_cons q_str (qa_cons q_str (qa_cons q_str (qa_cons q_str (qa_cons q_str (qa_cons q_str (qa_cons q_str qa_nil rfl) rfl) rfl) rfl) rfl) rfl) rfl) rfl)) (q_call tk ⟨G.f__law_draw, hr⟩ rfl rfl (qa_cons (q_var (i := 0) rfl (Or.inl rfl) rfl rfl) (qa_cons q_int qa_nil rfl) rfl) rfl rfl) (fun _ _ => rfl)))))))
abbrev st_law : Stmt := top 37
theorem sc_law : FnScope N_law [(Str.ofString "script")] (defScope st_law) := ⟨rfl, rfl, rfl, by decide +kernel, rfl, by decide +kernel, by decide +kernel⟩
theorem d_law (G : Wd P w K mg base cl T ad L) {f : Addr} (cdv : Value) (A : Around) (outer : List Env) (s : Shared) (H : Hp) (E : XK) (hr : Room L (A.deeper (envOfC (Str.ofString "law") (defScope st_law) s.heap.objs.size f cdv))) :
    QB (cxOf (L2.CX P w) P w K mg base N_law (Str.ofString "law") (defScope st_law) f cdv A outer s H E) cl (fun c d _ H => E c d H) (defBody st_law) (t_law T L) := by
  have S := sc_law
  have tk : Takes (cxOf (L2.CX P w) P w K mg base N_law (Str.ofString "law") (defScope st_law) f cdv A outer s H E) (fun c d _ H => E c d H) := takes_of rfl rfl rfl rfl
  have pw : PassesOwn (model P w) (A.deeper (envOfC (Str.ofString "law") (defScope st_law) s.heap.objs.size f cdv)) (envOfC (Str.ofString "law") (defScope st_law) s.heap.objs.size f cdv) (cxOf (L2.CX P w) P w K mg base N_law (Str.ofString "law") (defScope st_law) f cdv A outer s H E).xe := passes_of rfl
  exact (qb_cons (qs_for pw rfl (qi_enum rfl G.b_enumerate (qa_cons (q_sl (q_var (i := 0) rfl (Or.inl rfl) rfl rfl) qo_none (qo_some q_int)) qa_nil rfl) rfl) (qg_tup rfl (qgs_cons (qg_name (i := 1) S.nd rfl (Or.inl rfl) (Or.inl rfl)) (qgs_cons (qg_name (i := 2) S.nd rfl (Or.inl rfl) (Or.inl rfl)) qgs_nil rfl) rfl) rfl rfl) (qb_cons (qs_asg (q_call tk ⟨G.f__law_hand, hr⟩ rfl rfl (qa_cons (q_var (i := 0) rfl (Or.inl rfl) rfl rfl) (qa_cons (q_var (i := 2) rfl (Or.inl rfl) rfl rfl) (qa_cons (q_var (i := 1) rfl (Or.inl rfl) rfl rfl) qa_nil rfl) rfl) rfl) rfl rfl) (qg_name (i := 3) S.nd rfl (Or.inr rfl) (Or.inl rfl)) rfl rfl rfl)
    (qb_cons (qs_lc (n := 4) rfl S.nd rfl rfl (sw_true rfl rfl rfl (by decide +kernel)) (qi_rng1 rfl G.b_range (qa_cons (q_call tk ⟨G.f__law_draw, hr⟩ rfl rfl (qa_cons (q_var (i := 3) rfl (Or.inr (Or.inl rfl)) rfl rfl) (qa_cons q_int qa_nil rfl) rfl) rfl rfl) qa_nil rfl) rfl) (blkOk_by (own := [((Str.ofString "j"), 13)]) (N := N_law) (sc := defScope st_law) (by decide +kernel)) (fun _ _ _ _ _ => (pg_name (i := 13) S.nd rfl (Or.inl rfl) (Or.inr rfl))) (fun _ _ _ _ _ => qts_nil) (fun _ _ _ _ _ => (q_call takes0 ⟨G.f__law_piece, hr⟩ rfl rfl (qa_cons (q_var (i := 3) rfl (Or.inr (Or.inl rfl)) rfl rfl) qa_nil rfl) rfl rfl)) (fun _ => rfl))
    (qb_cons (qs_asg (q_mt (T := "str") (id := "str.join") PySem.F.plainAttrs_str PySem.F.slot_str_join PySem.F.type_str_join mt_join up_join mono_join q_str (qa_cons (q_lc rfl S.nd (qi_rng1 rfl G.b_range (qa_cons (q_call tk ⟨G.f__law_draw, hr⟩ rfl rfl (qa_cons (q_var (i := 3) rfl (Or.inr (Or.inl rfl)) rfl rfl) (qa_cons q_int qa_nil rfl) rfl) rfl rfl) qa_nil rfl) rfl) (blkOk_by (own := [((Str.ofString "j"), 13)]) (N := N_law) (sc := defScope st_law) (by decide +kernel)) (fun _ _ _ _ _ => (pg_name (i := 13) S.nd rfl (Or.inl rfl) (Or.inr rfl))) (fun _ _ _ _ _ => qts_nil) (fun _ _ _ _ _ => (q_ix hr.units q_str (q_call takes0 ⟨G.f__law_draw, hr⟩ rfl rfl (qa_cons (q_var (i := 3) rfl (Or.inr (Or.inl rfl)) rfl rfl) (qa_cons q_int qa_nil rfl) rfl) rfl rfl) (fun _ _ => rfl))) (fun _ => rfl)) qa_nil rfl) rfl rfl rfl rfl rfl) (qg_name (i := 5) S.nd rfl (Or.inl rfl) (Or.inl rfl)) rfl rfl rfl)
    (qb_cons (qs_if (t_w (w_or (t_not (t_tru (q_call tk ⟨G.f__law_words_right, hr⟩ rfl rfl (qa_cons (q_mt (T := "str") (id := "str.join") PySem.F.plainAttrs_str PySem.F.slot_str_join PySem.F.type_str_join mt_join up_join mono_join q_str (qa_cons (q_var (i := 4) rfl (Or.inl rfl) rfl rfl) qa_nil rfl) rfl rfl rfl rfl rfl) qa_nil rfl) rfl rfl) (fun _ => rfl))) (w_or1 (t_not (t_tru (q_call tk ⟨G.f__law_words_right, hr⟩ rfl rfl (qa_cons (q_var (i := 5) rfl (Or.inl rfl) rfl rfl) qa_nil rfl) rfl rfl) (fun _ => rfl)))))) (qb_one (qs_ret q_bl)) qb_nil)
    (qb_cons (qs_asg (q_mt (T := "str") (id := "str.join") PySem.F.plainAttrs_str PySem.F.slot_str_join PySem.F.type_str_join mt_join up_join mono_join q_str (qa_cons (q_lc rfl S.nd (qi_rng1 rfl G.b_range (qa_cons (q_add q_int (q_call tk ⟨G.f__law_draw, hr⟩ rfl rfl (qa_cons (q_var (i := 3) rfl (Or.inr (Or.inl rfl)) rfl rfl) (qa_cons q_int qa_nil rfl) rfl) rfl rfl)) qa_nil rfl) rfl) (blkOk_by (own := [((Str.ofString "j"), 13)]) (N := N_law) (sc := defScope st_law) (by decide +kernel)) (fun _ _ _ _ _ => (pg_name (i := 13) S.nd rfl (Or.inl rfl) (Or.inr rfl))) (fun _ _ _ _ _ => qts_nil) (fun _ _ _ _ _ => (q_ix hr.units q_str (q_call takes0 ⟨G.f__law_draw, hr⟩ rfl rfl (qa_cons (q_var (i := 3) rfl (Or.inr (Or.inl rfl)) rfl rfl) (qa_cons q_int qa_nil rfl) rfl) rfl rfl) (fun _ _ => rfl))) (fun _ => rfl)) qa_nil rfl) rfl rfl rfl rfl rfl) (qg_name (i := 6) S.nd rfl (Or.inl rfl) (Or.inl rfl)) rfl rfl rfl)
    (qb_cons (qs_asg (q_call tk ⟨G.f__law_value, hr⟩ rfl rfl (qa_cons (q_var (i := 3) rfl (Or.inr (Or.inl rfl)) rfl rfl) qa_nil rfl) rfl rfl) (qg_name (i := 7) S.nd rfl (Or.inl rfl) (Or.inl rfl)) rfl rfl rfl)
    (qb_cons (qs_asg (q_strX rfl G.b_str (qa_cons (q_var (i := 7) rfl (Or.inl rfl) rfl rfl) qa_nil rfl) rfl rfl) (qg_name (i := 8) S.nd rfl (Or.inl rfl) (Or.inl rfl)) rfl rfl rfl)
    (qb_consJ (qs_if (t_tru (q_isi rfl G.b_isinstance (qa_cons (q_var (i := 7) rfl (Or.inl rfl) rfl rfl) (qa_cons (q_ty (by decide +kernel) (by decide) rfl rfl G.b_str) qa_nil rfl) rfl) rfl rfl) (fun _ => rfl)) (qb_one (qs_asg (q_add (q_add q_str (q_var (i := 7) rfl (Or.inl rfl) rfl rfl)) q_str) (qg_name (i := 8) S.nd rfl (Or.inl rfl) (Or.inl rfl)) rfl rfl rfl)) qb_nil)
    (qb_cons (qs_asg (q_strX rfl G.b_str (qa_cons (q_mul (q_ix hr.units (q_lst (qa_cons q_int (qa_cons (q_neg q_int) qa_nil rfl) rfl)) (q_call tk ⟨G.f__law_draw, hr⟩ rfl rfl (qa_cons (q_var (i := 3) rfl (Or.inr (Or.inl rfl)) rfl rfl) (qa_cons q_int qa_nil rfl) rfl) rfl rfl) (fun _ _ => rfl)) (q_add (q_sub (q_pow q_int q_int) q_int) (q_call tk ⟨G.f__law_draw, hr⟩ rfl rfl (qa_cons (q_var (i := 3) rfl (Or.inr (Or.inl rfl)) rfl rfl) (qa_cons q_int qa_nil rfl) rfl) rfl rfl))) qa_nil rfl) rfl rfl) (qg_name (i := 9) S.nd rfl (Or.inl rfl) (Or.inl rfl)) rfl rfl rfl)
    (qb_cons (qs_asg (q_add (q_add (q_add q_str (q_call tk ⟨G.f__law_text, hr⟩ rfl rfl (qa_cons (q_var (i := 3) rfl (Or.inr (Or.inl rfl)) rfl rfl) (qa_cons q_int qa_nil rfl) rfl) rfl rfl)) (q_ix hr.units (q_lst (qa_cons q_str (qa_cons q_str (qa_cons q_str (qa_cons q_str qa_nil rfl) rfl) rfl) rfl)) (q_call tk ⟨G.f__law_draw, hr⟩ rfl rfl (qa_cons (q_var (i := 3) rfl (Or.inr (Or.inl rfl)) rfl rfl) (qa_cons q_int qa_nil rfl) rfl) rfl rfl) (fun _ _ => rfl))) q_str) (qg_name (i := 10) S.nd rfl (Or.inl rfl) (Or.inl rfl)) rfl rfl rfl)
    (qb_one (qs_for pw rfl (qi_seq (q_lst (qa_cons (q_var (i := 6) rfl (Or.inl rfl) rfl rfl) (qa_cons (q_var (i := 8) rfl (Or.inl rfl) rfl rfl) (qa_cons (q_var (i := 9) rfl (Or.inl rfl) rfl rfl) (qa_cons (q_add q_str (q_var (i := 9) rfl (Or.inl rfl) rfl rfl)) (qa_cons q_str (qa_cons (q_add q_str (q_var (i := 6) rfl (Or.inl rfl) rfl rfl)) (qa_cons (q_var (i := 10) rfl (Or.inl rfl) rfl rfl) qa_nil rfl) rfl) rfl) rfl) rfl) rfl) rfl))) (qg_name (i := 11) S.nd rfl (Or.inl rfl) (Or.inl rfl)) (qb_one (qs_if (t_not (t_tru (q_call tk ⟨G.f__law_value_right, hr⟩ rfl rfl (qa_cons (q_var (i := 11) rfl (Or.inl rfl) rfl rfl) qa_nil rfl) rfl rfl) (fun _ => rfl))) (qb_one (qs_ret q_bl)) qb_nil)) (fun _ => rfl))))))))))))) (fun _ => rfl))
    (qb_cons (qs_for pw rfl (qi_seq (q_lst (qa_cons q_str (qa_cons q_str (qa_cons q_str (qa_cons q_str (qa_cons q_str (qa_cons q_str (qa_cons q_str (qa_cons q_str (qa_cons q_str (qa_cons q_str qa_nil rfl) rfl) rfl) rfl) rfl) rfl) rfl) rfl) rfl) rfl))) (qg_name (i := 12) S.nd rfl (Or.inl rfl) (Or.inl rfl)) (qb_one (qs_if (t_not (t_tru (q_call tk ⟨G.f__law_words_right, hr⟩ rfl rfl (qa_cons (q_var (i := 12) rfl (Or.inl rfl) rfl rfl) qa_nil rfl) rfl rfl) (fun _ => rfl))) (qb_one (qs_ret q_bl)) qb_nil)) (fun _ => rfl))
    (qb_one (qs_ret q_bl))))
end
/-! the law, from its parts -/
theorem allc {α : Type} {P : α → Prop} {a : α} {l : List α} (h : P a) (t : ∀ x ∈ l, P x) : ∀ x ∈ a :: l, P x := fun x hx => (List.mem_cons.mp hx).elim (fun e => e ▸ h) (t x)
theorem alln {α : Type} {P : α → Prop} : ∀ x ∈ ([] : List α), P x := fun _ h => nomatch h
noncomputable def tab : Nat → FSpec := fun i => match i with
  | 182 => sp_isval
  | 186 => sp_words
  | 181 => sp_numof
  | 189 => sp_valof
  | 190 => sp_hand
  | 183 => sp_draw
  | 184 => sp_text
  | 191 => sp_value
  | 187 => sp_refd
  | 185 => sp_parted
  | 188 => sp_worth
  | 192 => sp_wright
  | 193 => sp_vright
  | 194 => sp_piece
  | _ => sp_law
def adT (a182 a186 a181 a189 a190 a183 a184 a191 a187 a185 a188 a192 a193 a194 : Addr) : Nat → Addr := fun i => match i with
  | 182 => a182
  | 186 => a186
  | 181 => a181
  | 189 => a189
  | 190 => a190
  | 183 => a183
  | 184 => a184
  | 191 => a191
  | 187 => a187
  | 185 => a185
  | 188 => a188
  | 192 => a192
  | 193 => a193
  | 194 => a194
  | _ => 0
abbrev TT : Tb := fun i S => S = tab i
theorem lenF_is_value : ∀ (al : sp_isval.al) (ds : List D) (m : Mp), sp_isval.pre al ds m → ds.length = ([(Str.ofString "thing")] : List Str).length := fun al ds m h => by
  first | (have h := (h : _ ∧ _).1; rw [h]; rfl) | (have h : ds = _ := h; rw [h]; rfl) | (obtain ⟨⟨h, _⟩, _⟩ := h; rw [h]; rfl)
theorem lenF_words_in : ∀ (al : sp_words.al) (ds : List D) (m : Mp), sp_words.pre al ds m → ds.length = ([(Str.ofString "text")] : List Str).length := fun al ds m h => by
  first | (have h := (h : _ ∧ _).1; rw [h]; rfl) | (have h : ds = _ := h; rw [h]; rfl) | (obtain ⟨⟨h, _⟩, _⟩ := h; rw [h]; rfl)
theorem lenF_number_of : ∀ (al : sp_numof.al) (ds : List D) (m : Mp), sp_numof.pre al ds m → ds.length = ([(Str.ofString "word")] : List Str).length := fun al ds m h => by
  first | (have h := (h : _ ∧ _).1; rw [h]; rfl) | (have h : ds = _ := h; rw [h]; rfl) | (obtain ⟨⟨h, _⟩, _⟩ := h; rw [h]; rfl)
theorem lenF_value_of : ∀ (al : sp_valof.al) (ds : List D) (m : Mp), sp_valof.pre al ds m → ds.length = ([(Str.ofString "word")] : List Str).length := fun al ds m h => by
  first | (have h := (h : _ ∧ _).1; rw [h]; rfl) | (have h : ds = _ := h; rw [h]; rfl) | (obtain ⟨⟨h, _⟩, _⟩ := h; rw [h]; rfl)
theorem lenF_law_hand : ∀ (al : sp_hand.al) (ds : List D) (m : Mp), sp_hand.pre al ds m → ds.length = ([(Str.ofString "script"), (Str.ofString "cell"), (Str.ofString "k")] : List Str).length := fun al ds m h => by
  first | (have h := (h : _ ∧ _).1; rw [h]; rfl) | (have h : ds = _ := h; rw [h]; rfl) | (obtain ⟨⟨h, _⟩, _⟩ := h; rw [h]; rfl)
theorem lenF_law_draw : ∀ (al : sp_draw.al) (ds : List D) (m : Mp), sp_draw.pre al ds m → ds.length = ([(Str.ofString "hand"), (Str.ofString "limit")] : List Str).length := fun al ds m h => by
  first | (have h := (h : _ ∧ _).1; rw [h]; rfl) | (have h : ds = _ := h; rw [h]; rfl) | (obtain ⟨⟨h, _⟩, _⟩ := h; rw [h]; rfl)
theorem lenF_law_text : ∀ (al : sp_text.al) (ds : List D) (m : Mp), sp_text.pre al ds m → ds.length = ([(Str.ofString "hand"), (Str.ofString "most")] : List Str).length := fun al ds m h => by
  first | (have h := (h : _ ∧ _).1; rw [h]; rfl) | (have h : ds = _ := h; rw [h]; rfl) | (obtain ⟨⟨h, _⟩, _⟩ := h; rw [h]; rfl)
theorem lenF_law_value : ∀ (al : sp_value.al) (ds : List D) (m : Mp), sp_value.pre al ds m → ds.length = ([(Str.ofString "hand")] : List Str).length := fun al ds m h => by
  first | (have h := (h : _ ∧ _).1; rw [h]; rfl) | (have h : ds = _ := h; rw [h]; rfl) | (obtain ⟨⟨h, _⟩, _⟩ := h; rw [h]; rfl)
theorem lenF_law_refused : ∀ (al : sp_refd.al) (ds : List D) (m : Mp), sp_refd.pre al ds m → ds.length = ([(Str.ofString "caught")] : List Str).length := fun al ds m h => by
  first | (have h := (h : _ ∧ _).1; rw [h]; rfl) | (have h : ds = _ := h; rw [h]; rfl) | (obtain ⟨⟨h, _⟩, _⟩ := h; rw [h]; rfl)
theorem lenF_law_parted : ∀ (al : sp_parted.al) (ds : List D) (m : Mp), sp_parted.pre al ds m → ds.length = ([(Str.ofString "text")] : List Str).length := fun al ds m h => by
  first | (have h := (h : _ ∧ _).1; rw [h]; rfl) | (have h : ds = _ := h; rw [h]; rfl) | (obtain ⟨⟨h, _⟩, _⟩ := h; rw [h]; rfl)
theorem lenF_law_worth : ∀ (al : sp_worth.al) (ds : List D) (m : Mp), sp_worth.pre al ds m → ds.length = ([(Str.ofString "word")] : List Str).length := fun al ds m h => by
  first | (have h := (h : _ ∧ _).1; rw [h]; rfl) | (have h : ds = _ := h; rw [h]; rfl) | (obtain ⟨⟨h, _⟩, _⟩ := h; rw [h]; rfl)
theorem lenF_law_words_right : ∀ (al : sp_wright.al) (ds : List D) (m : Mp), sp_wright.pre al ds m → ds.length = ([(Str.ofString "thing")] : List Str).length := fun al ds m h => by
  first | (have h := (h : _ ∧ _).1; rw [h]; rfl) | (have h : ds = _ := h; rw [h]; rfl) | (obtain ⟨⟨h, _⟩, _⟩ := h; rw [h]; rfl)
theorem lenF_law_value_right : ∀ (al : sp_vright.al) (ds : List D) (m : Mp), sp_vright.pre al ds m → ds.length = ([(Str.ofString "word")] : List Str).length := fun al ds m h => by
  first | (have h := (h : _ ∧ _).1; rw [h]; rfl) | (have h : ds = _ := h; rw [h]; rfl) | (obtain ⟨⟨h, _⟩, _⟩ := h; rw [h]; rfl)
theorem lenF_law_piece : ∀ (al : sp_piece.al) (ds : List D) (m : Mp), sp_piece.pre al ds m → ds.length = ([(Str.ofString "hand")] : List Str).length := fun al ds m h => by
  first | (have h := (h : _ ∧ _).1; rw [h]; rfl) | (have h : ds = _ := h; rw [h]; rfl) | (obtain ⟨⟨h, _⟩, _⟩ := h; rw [h]; rfl)
theorem lenF_law : ∀ (al : sp_law.al) (ds : List D) (m : Mp), sp_law.pre al ds m → ds.length = ([(Str.ofString "script")] : List Str).length := fun al ds m h => by
  first | (have h := (h : _ ∧ _).1; rw [h]; rfl) | (have h : ds = _ := h; rw [h]; rfl) | (obtain ⟨⟨h, _⟩, _⟩ := h; rw [h]; rfl)
theorem all_mk {l : PySem.W.OpenLaw} {w : World} {K : PySem.W.Frag} {h : Heap} {mg : Str → Option Value} {fa a182 a186 a181 a189 a190 a183 a184 a191 a187 a185 a188 a192 a193 a194 a384 : Addr} (X : K.In h) (G : h.Ns mainGlobals mg) (hfa : mg "law" = some (.ref fa))
    {od182 an182 : Option Addr} {sl182 : Array (Option Value)} {oc182 kV182 dc182 pm182 cd182 ct182 : Value}
    {od186 an186 : Option Addr} {sl186 : Array (Option Value)} {oc186 kV186 dc186 pm186 cd186 ct186 : Value}
    {od181 an181 : Option Addr} {sl181 : Array (Option Value)} {oc181 kV181 dc181 pm181 cd181 ct181 : Value}
    {od189 an189 : Option Addr} {sl189 : Array (Option Value)} {oc189 kV189 dc189 pm189 cd189 ct189 : Value}
    {od190 an190 : Option Addr} {sl190 : Array (Option Value)} {oc190 kV190 dc190 pm190 cd190 ct190 : Value}
    {od183 an183 : Option Addr} {sl183 : Array (Option Value)} {oc183 kV183 dc183 pm183 cd183 ct183 : Value}
    {od184 an184 : Option Addr} {sl184 : Array (Option Value)} {oc184 kV184 dc184 pm184 cd184 ct184 : Value}
    {od191 an191 : Option Addr} {sl191 : Array (Option Value)} {oc191 kV191 dc191 pm191 cd191 ct191 : Value}
    {od187 an187 : Option Addr} {sl187 : Array (Option Value)} {oc187 kV187 dc187 pm187 cd187 ct187 : Value}
    {od185 an185 : Option Addr} {sl185 : Array (Option Value)} {oc185 kV185 dc185 pm185 cd185 ct185 : Value}
    {od188 an188 : Option Addr} {sl188 : Array (Option Value)} {oc188 kV188 dc188 pm188 cd188 ct188 : Value}
    {od192 an192 : Option Addr} {sl192 : Array (Option Value)} {oc192 kV192 dc192 pm192 cd192 ct192 : Value}
    {od193 an193 : Option Addr} {sl193 : Array (Option Value)} {oc193 kV193 dc193 pm193 cd193 ct193 : Value}
    {od194 an194 : Option Addr} {sl194 : Array (Option Value)} {oc194 kV194 dc194 pm194 cd194 ct194 : Value}
    {od384 an384 : Option Addr} {sl384 : Array (Option Value)} {oc384 kV384 dc384 pm384 cd384 ct384 : Value}
    (n182 : PySem.W.nsIn K mainGlobals (Str.ofString "is_value") = some (some (.ref a182))) (l182 : K.lookup a182 = some ⟨oc182, od182, .func (PySem.W.fnOf (Str.ofString "is_value") (Str.ofString "is_value") (defArgs st_is_value) (defBody st_is_value) (defScope st_is_value) .none kV182 dc182 pm182 an182 cd182 ct182), sl182⟩) (c182 : PySem.W.codeIn K cd182 (Str.ofString "is_value") = true) (k182 : PySem.W.keepIn K (.ref a182) = true)
    (n186 : PySem.W.nsIn K mainGlobals (Str.ofString "words_in") = some (some (.ref a186))) (l186 : K.lookup a186 = some ⟨oc186, od186, .func (PySem.W.fnOf (Str.ofString "words_in") (Str.ofString "words_in") (defArgs st_words_in) (defBody st_words_in) (defScope st_words_in) .none kV186 dc186 pm186 an186 cd186 ct186), sl186⟩) (c186 : PySem.W.codeIn K cd186 (Str.ofString "words_in") = true) (k186 : PySem.W.keepIn K (.ref a186) = true)
    (n181 : PySem.W.nsIn K mainGlobals (Str.ofString "number_of") = some (some (.ref a181))) (l181 : K.lookup a181 = some ⟨oc181, od181, .func (PySem.W.fnOf (Str.ofString "number_of") (Str.ofString "number_of") (defArgs st_number_of) (defBody st_number_of) (defScope st_number_of) .none kV181 dc181 pm181 an181 cd181 ct181), sl181⟩) (c181 : PySem.W.codeIn K cd181 (Str.ofString "number_of") = true) (k181 : PySem.W.keepIn K (.ref a181) = true)
    (n189 : PySem.W.nsIn K mainGlobals (Str.ofString "value_of") = some (some (.ref a189))) (l189 : K.lookup a189 = some ⟨oc189, od189, .func (PySem.W.fnOf (Str.ofString "value_of") (Str.ofString "value_of") (defArgs st_value_of) (defBody st_value_of) (defScope st_value_of) .none kV189 dc189 pm189 an189 cd189 ct189), sl189⟩) (c189 : PySem.W.codeIn K cd189 (Str.ofString "value_of") = true) (k189 : PySem.W.keepIn K (.ref a189) = true)
    (n190 : PySem.W.nsIn K mainGlobals (Str.ofString "_law_hand") = some (some (.ref a190))) (l190 : K.lookup a190 = some ⟨oc190, od190, .func (PySem.W.fnOf (Str.ofString "_law_hand") (Str.ofString "_law_hand") (defArgs st_law_hand) (defBody st_law_hand) (defScope st_law_hand) .none kV190 dc190 pm190 an190 cd190 ct190), sl190⟩) (c190 : PySem.W.codeIn K cd190 (Str.ofString "_law_hand") = true) (k190 : PySem.W.keepIn K (.ref a190) = true)
    (n183 : PySem.W.nsIn K mainGlobals (Str.ofString "_law_draw") = some (some (.ref a183))) (l183 : K.lookup a183 = some ⟨oc183, od183, .func (PySem.W.fnOf (Str.ofString "_law_draw") (Str.ofString "_law_draw") (defArgs st_law_draw) (defBody st_law_draw) (defScope st_law_draw) .none kV183 dc183 pm183 an183 cd183 ct183), sl183⟩) (c183 : PySem.W.codeIn K cd183 (Str.ofString "_law_draw") = true) (k183 : PySem.W.keepIn K (.ref a183) = true)
    (n184 : PySem.W.nsIn K mainGlobals (Str.ofString "_law_text") = some (some (.ref a184))) (l184 : K.lookup a184 = some ⟨oc184, od184, .func (PySem.W.fnOf (Str.ofString "_law_text") (Str.ofString "_law_text") (defArgs st_law_text) (defBody st_law_text) (defScope st_law_text) .none kV184 dc184 pm184 an184 cd184 ct184), sl184⟩) (c184 : PySem.W.codeIn K cd184 (Str.ofString "_law_text") = true) (k184 : PySem.W.keepIn K (.ref a184) = true)
    (n191 : PySem.W.nsIn K mainGlobals (Str.ofString "_law_value") = some (some (.ref a191))) (l191 : K.lookup a191 = some ⟨oc191, od191, .func (PySem.W.fnOf (Str.ofString "_law_value") (Str.ofString "_law_value") (defArgs st_law_value) (defBody st_law_value) (defScope st_law_value) .none kV191 dc191 pm191 an191 cd191 ct191), sl191⟩) (c191 : PySem.W.codeIn K cd191 (Str.ofString "_law_value") = true) (k191 : PySem.W.keepIn K (.ref a191) = true)
    (n187 : PySem.W.nsIn K mainGlobals (Str.ofString "_law_refused") = some (some (.ref a187))) (l187 : K.lookup a187 = some ⟨oc187, od187, .func (PySem.W.fnOf (Str.ofString "_law_refused") (Str.ofString "_law_refused") (defArgs st_law_refused) (defBody st_law_refused) (defScope st_law_refused) .none kV187 dc187 pm187 an187 cd187 ct187), sl187⟩) (c187 : PySem.W.codeIn K cd187 (Str.ofString "_law_refused") = true) (k187 : PySem.W.keepIn K (.ref a187) = true)
    (n185 : PySem.W.nsIn K mainGlobals (Str.ofString "_law_parted") = some (some (.ref a185))) (l185 : K.lookup a185 = some ⟨oc185, od185, .func (PySem.W.fnOf (Str.ofString "_law_parted") (Str.ofString "_law_parted") (defArgs st_law_parted) (defBody st_law_parted) (defScope st_law_parted) .none kV185 dc185 pm185 an185 cd185 ct185), sl185⟩) (c185 : PySem.W.codeIn K cd185 (Str.ofString "_law_parted") = true) (k185 : PySem.W.keepIn K (.ref a185) = true)
    (n188 : PySem.W.nsIn K mainGlobals (Str.ofString "_law_worth") = some (some (.ref a188))) (l188 : K.lookup a188 = some ⟨oc188, od188, .func (PySem.W.fnOf (Str.ofString "_law_worth") (Str.ofString "_law_worth") (defArgs st_law_worth) (defBody st_law_worth) (defScope st_law_worth) .none kV188 dc188 pm188 an188 cd188 ct188), sl188⟩) (c188 : PySem.W.codeIn K cd188 (Str.ofString "_law_worth") = true) (k188 : PySem.W.keepIn K (.ref a188) = true)
    (n192 : PySem.W.nsIn K mainGlobals (Str.ofString "_law_words_right") = some (some (.ref a192))) (l192 : K.lookup a192 = some ⟨oc192, od192, .func (PySem.W.fnOf (Str.ofString "_law_words_right") (Str.ofString "_law_words_right") (defArgs st_law_words_right) (defBody st_law_words_right) (defScope st_law_words_right) .none kV192 dc192 pm192 an192 cd192 ct192), sl192⟩) (c192 : PySem.W.codeIn K cd192 (Str.ofString "_law_words_right") = true) (k192 : PySem.W.keepIn K (.ref a192) = true)
    (n193 : PySem.W.nsIn K mainGlobals (Str.ofString "_law_value_right") = some (some (.ref a193))) (l193 : K.lookup a193 = some ⟨oc193, od193, .func (PySem.W.fnOf (Str.ofString "_law_value_right") (Str.ofString "_law_value_right") (defArgs st_law_value_right) (defBody st_law_value_right) (defScope st_law_value_right) .none kV193 dc193 pm193 an193 cd193 ct193), sl193⟩) (c193 : PySem.W.codeIn K cd193 (Str.ofString "_law_value_right") = true) (k193 : PySem.W.keepIn K (.ref a193) = true)
    (n194 : PySem.W.nsIn K mainGlobals (Str.ofString "_law_piece") = some (some (.ref a194))) (l194 : K.lookup a194 = some ⟨oc194, od194, .func (PySem.W.fnOf (Str.ofString "_law_piece") (Str.ofString "_law_piece") (defArgs st_law_piece) (defBody st_law_piece) (defScope st_law_piece) .none kV194 dc194 pm194 an194 cd194 ct194), sl194⟩) (c194 : PySem.W.codeIn K cd194 (Str.ofString "_law_piece") = true) (k194 : PySem.W.keepIn K (.ref a194) = true)
    (n384 : PySem.W.nsIn K mainGlobals (Str.ofString "law") = some (some (.ref a384))) (l384 : K.lookup a384 = some ⟨oc384, od384, .func (PySem.W.fnOf (Str.ofString "law") (Str.ofString "law") (defArgs st_law) (defBody st_law) (defScope st_law) .none kV384 dc384 pm384 an384 cd384 ct384), sl384⟩) (c384 : PySem.W.codeIn K cd384 (Str.ofString "law") = true) (k384 : PySem.W.keepIn K (.ref a384) = true)
    (z_ValueError : PySem.W.nsIn K mainGlobals (Str.ofString "ValueError") = some none)
    (z_bool : PySem.W.nsIn K mainGlobals (Str.ofString "bool") = some none)
    (z_enumerate : PySem.W.nsIn K mainGlobals (Str.ofString "enumerate") = some none)
    (z_int : PySem.W.nsIn K mainGlobals (Str.ofString "int") = some none)
    (z_isinstance : PySem.W.nsIn K mainGlobals (Str.ofString "isinstance") = some none)
    (z_len : PySem.W.nsIn K mainGlobals (Str.ofString "len") = some none)
    (z_list : PySem.W.nsIn K mainGlobals (Str.ofString "list") = some none)
    (z_ord : PySem.W.nsIn K mainGlobals (Str.ofString "ord") = some none)
    (z_range : PySem.W.nsIn K mainGlobals (Str.ofString "range") = some none)
    (z_str : PySem.W.nsIn K mainGlobals (Str.ofString "str") = some none)
    (z_sum : PySem.W.nsIn K mainGlobals (Str.ofString "sum") = some none)
    {v_FIGURES : Value} (y_FIGURES : PySem.W.nsIn K mainGlobals (Str.ofString "FIGURES") = some (some v_FIGURES)) (x_FIGURES : RelV (.str (Str.ofString "0123456789")) v_FIGURES)
    {v_MOST : Value} (y_MOST : PySem.W.nsIn K mainGlobals (Str.ofString "MOST") = some (some v_MOST)) (x_MOST : RelV (.int 1000000000000) v_MOST)
    {v_MOST_FIGURES : Value} (y_MOST_FIGURES : PySem.W.nsIn K mainGlobals (Str.ofString "MOST_FIGURES") = some (some v_MOST_FIGURES)) (x_MOST_FIGURES : RelV (.int 13) v_MOST_FIGURES)
    {v_MOST_SIGNS : Value} (y_MOST_SIGNS : PySem.W.nsIn K mainGlobals (Str.ofString "MOST_SIGNS") = some (some v_MOST_SIGNS)) (x_MOST_SIGNS : RelV (.int 20) v_MOST_SIGNS)
    {v_QUOTE : Value} (y_QUOTE : PySem.W.nsIn K mainGlobals (Str.ofString "QUOTE") = some (some v_QUOTE)) (x_QUOTE : RelV (.str (Str.ofString "'")) v_QUOTE)
    {v_SIGNS : Value} (y_SIGNS : PySem.W.nsIn K mainGlobals (Str.ofString "SIGNS") = some (some v_SIGNS)) (x_SIGNS : RelV (.str (Str.ofString " !\"#$&()*+,-./0123456789:<=>?@ABCDEFGHIJKLMNOPQRSTUVWXYZ[\\]^_`abcdefghijklmnopqrstuvwxyz{|}~")) v_SIGNS)
    {e_BadThing : Addr} (en_BadThing : PySem.W.nsIn K mainGlobals (Str.ofString "BadThing") = some (some (.ref e_BadThing))) (ef_BadThing : ExF K e_BadThing) (eo_BadThing : PySem.W.excIn K e_BadThing [.type "ValueError", .type "Exception", .type "BaseException", .type "object"] "ValueError.__new__" = true)
    {e_Clash : Addr} (en_Clash : PySem.W.nsIn K mainGlobals (Str.ofString "Clash") = some (some (.ref e_Clash))) (ef_Clash : ExF K e_Clash)
    {e_NoColumn : Addr} (en_NoColumn : PySem.W.nsIn K mainGlobals (Str.ofString "NoColumn") = some (some (.ref e_NoColumn))) (ef_NoColumn : ExF K e_NoColumn) (eo_NoColumn : PySem.W.excIn K e_NoColumn [.type "ValueError", .type "Exception", .type "BaseException", .type "object"] "ValueError.__new__" = true)
    {e_NoName : Addr} (en_NoName : PySem.W.nsIn K mainGlobals (Str.ofString "NoName") = some (some (.ref e_NoName))) (ef_NoName : ExF K e_NoName) (eo_NoName : PySem.W.excIn K e_NoName [.type "ValueError", .type "Exception", .type "BaseException", .type "object"] "ValueError.__new__" = true)
    {e_NoPaper : Addr} (en_NoPaper : PySem.W.nsIn K mainGlobals (Str.ofString "NoPaper") = some (some (.ref e_NoPaper))) (ef_NoPaper : ExF K e_NoPaper) (eo_NoPaper : PySem.W.excIn K e_NoPaper [.type "ValueError", .type "Exception", .type "BaseException", .type "object"] "ValueError.__new__" = true)
    {e_NoPlan : Addr} (en_NoPlan : PySem.W.nsIn K mainGlobals (Str.ofString "NoPlan") = some (some (.ref e_NoPlan))) (ef_NoPlan : ExF K e_NoPlan) (eo_NoPlan : PySem.W.excIn K e_NoPlan [.type "ValueError", .type "Exception", .type "BaseException", .type "object"] "ValueError.__new__" = true)
    {e_NoQuestion : Addr} (en_NoQuestion : PySem.W.nsIn K mainGlobals (Str.ofString "NoQuestion") = some (some (.ref e_NoQuestion))) (ef_NoQuestion : ExF K e_NoQuestion) (eo_NoQuestion : PySem.W.excIn K e_NoQuestion [.type "ValueError", .type "Exception", .type "BaseException", .type "object"] "ValueError.__new__" = true)
    {e_NoRow : Addr} (en_NoRow : PySem.W.nsIn K mainGlobals (Str.ofString "NoRow") = some (some (.ref e_NoRow))) (ef_NoRow : ExF K e_NoRow) (eo_NoRow : PySem.W.excIn K e_NoRow [.type "ValueError", .type "Exception", .type "BaseException", .type "object"] "ValueError.__new__" = true)
    {e_NoState : Addr} (en_NoState : PySem.W.nsIn K mainGlobals (Str.ofString "NoState") = some (some (.ref e_NoState))) (ef_NoState : ExF K e_NoState) (eo_NoState : PySem.W.excIn K e_NoState [.type "ValueError", .type "Exception", .type "BaseException", .type "object"] "ValueError.__new__" = true)
    {e_NoStep : Addr} (en_NoStep : PySem.W.nsIn K mainGlobals (Str.ofString "NoStep") = some (some (.ref e_NoStep))) (ef_NoStep : ExF K e_NoStep) (eo_NoStep : PySem.W.excIn K e_NoStep [.type "ValueError", .type "Exception", .type "BaseException", .type "object"] "ValueError.__new__" = true)
    {e_NoTable : Addr} (en_NoTable : PySem.W.nsIn K mainGlobals (Str.ofString "NoTable") = some (some (.ref e_NoTable))) (ef_NoTable : ExF K e_NoTable) (eo_NoTable : PySem.W.excIn K e_NoTable [.type "ValueError", .type "Exception", .type "BaseException", .type "object"] "ValueError.__new__" = true)
    {e_NotSo : Addr} (en_NotSo : PySem.W.nsIn K mainGlobals (Str.ofString "NotSo") = some (some (.ref e_NotSo))) (ef_NotSo : ExF K e_NotSo) (eo_NotSo : PySem.W.excIn K e_NotSo [.type "ValueError", .type "Exception", .type "BaseException", .type "object"] "ValueError.__new__" = true)
    {e_VaultError : Addr} (en_VaultError : PySem.W.nsIn K mainGlobals (Str.ofString "VaultError") = some (some (.ref e_VaultError))) (ef_VaultError : ExF K e_VaultError) (eo_VaultError : PySem.W.excIn K e_VaultError [.type "ValueError", .type "Exception", .type "BaseException", .type "object"] "ValueError.__new__" = true)
    (es_BadThing : PySem.W.subIn K (.ref e_BadThing) (.ref e_BadThing) = some true ∧ PySem.W.subIn K (.ref e_BadThing) (.ref e_Clash) = some false ∧ PySem.W.subIn K (.ref e_BadThing) (.ref e_NoColumn) = some false ∧ PySem.W.subIn K (.ref e_BadThing) (.ref e_NoName) = some false ∧ PySem.W.subIn K (.ref e_BadThing) (.ref e_NoPaper) = some false ∧ PySem.W.subIn K (.ref e_BadThing) (.ref e_NoPlan) = some false ∧ PySem.W.subIn K (.ref e_BadThing) (.ref e_NoQuestion) = some false ∧ PySem.W.subIn K (.ref e_BadThing) (.ref e_NoRow) = some false ∧ PySem.W.subIn K (.ref e_BadThing) (.ref e_NoState) = some false ∧ PySem.W.subIn K (.ref e_BadThing) (.ref e_NoStep) = some false ∧ PySem.W.subIn K (.ref e_BadThing) (.ref e_NoTable) = some false ∧ PySem.W.subIn K (.ref e_BadThing) (.ref e_NotSo) = some false ∧ PySem.W.subIn K (.ref e_BadThing) (.ref e_VaultError) = some true)
    (es_Clash : PySem.W.subIn K (.ref e_Clash) (.ref e_BadThing) = some false ∧ PySem.W.subIn K (.ref e_Clash) (.ref e_Clash) = some true ∧ PySem.W.subIn K (.ref e_Clash) (.ref e_NoColumn) = some false ∧ PySem.W.subIn K (.ref e_Clash) (.ref e_NoName) = some false ∧ PySem.W.subIn K (.ref e_Clash) (.ref e_NoPaper) = some false ∧ PySem.W.subIn K (.ref e_Clash) (.ref e_NoPlan) = some false ∧ PySem.W.subIn K (.ref e_Clash) (.ref e_NoQuestion) = some false ∧ PySem.W.subIn K (.ref e_Clash) (.ref e_NoRow) = some false ∧ PySem.W.subIn K (.ref e_Clash) (.ref e_NoState) = some false ∧ PySem.W.subIn K (.ref e_Clash) (.ref e_NoStep) = some false ∧ PySem.W.subIn K (.ref e_Clash) (.ref e_NoTable) = some false ∧ PySem.W.subIn K (.ref e_Clash) (.ref e_NotSo) = some false ∧ PySem.W.subIn K (.ref e_Clash) (.ref e_VaultError) = some true)
    (es_NoColumn : PySem.W.subIn K (.ref e_NoColumn) (.ref e_BadThing) = some false ∧ PySem.W.subIn K (.ref e_NoColumn) (.ref e_Clash) = some false ∧ PySem.W.subIn K (.ref e_NoColumn) (.ref e_NoColumn) = some true ∧ PySem.W.subIn K (.ref e_NoColumn) (.ref e_NoName) = some false ∧ PySem.W.subIn K (.ref e_NoColumn) (.ref e_NoPaper) = some false ∧ PySem.W.subIn K (.ref e_NoColumn) (.ref e_NoPlan) = some false ∧ PySem.W.subIn K (.ref e_NoColumn) (.ref e_NoQuestion) = some false ∧ PySem.W.subIn K (.ref e_NoColumn) (.ref e_NoRow) = some false ∧ PySem.W.subIn K (.ref e_NoColumn) (.ref e_NoState) = some false ∧ PySem.W.subIn K (.ref e_NoColumn) (.ref e_NoStep) = some false ∧ PySem.W.subIn K (.ref e_NoColumn) (.ref e_NoTable) = some false ∧ PySem.W.subIn K (.ref e_NoColumn) (.ref e_NotSo) = some false ∧ PySem.W.subIn K (.ref e_NoColumn) (.ref e_VaultError) = some true)
    (es_NoName : PySem.W.subIn K (.ref e_NoName) (.ref e_BadThing) = some false ∧ PySem.W.subIn K (.ref e_NoName) (.ref e_Clash) = some false ∧ PySem.W.subIn K (.ref e_NoName) (.ref e_NoColumn) = some false ∧ PySem.W.subIn K (.ref e_NoName) (.ref e_NoName) = some true ∧ PySem.W.subIn K (.ref e_NoName) (.ref e_NoPaper) = some false ∧ PySem.W.subIn K (.ref e_NoName) (.ref e_NoPlan) = some false ∧ PySem.W.subIn K (.ref e_NoName) (.ref e_NoQuestion) = some false ∧ PySem.W.subIn K (.ref e_NoName) (.ref e_NoRow) = some false ∧ PySem.W.subIn K (.ref e_NoName) (.ref e_NoState) = some false ∧ PySem.W.subIn K (.ref e_NoName) (.ref e_NoStep) = some false ∧ PySem.W.subIn K (.ref e_NoName) (.ref e_NoTable) = some false ∧ PySem.W.subIn K (.ref e_NoName) (.ref e_NotSo) = some false ∧ PySem.W.subIn K (.ref e_NoName) (.ref e_VaultError) = some true)
    (es_NoPaper : PySem.W.subIn K (.ref e_NoPaper) (.ref e_BadThing) = some false ∧ PySem.W.subIn K (.ref e_NoPaper) (.ref e_Clash) = some false ∧ PySem.W.subIn K (.ref e_NoPaper) (.ref e_NoColumn) = some false ∧ PySem.W.subIn K (.ref e_NoPaper) (.ref e_NoName) = some false ∧ PySem.W.subIn K (.ref e_NoPaper) (.ref e_NoPaper) = some true ∧ PySem.W.subIn K (.ref e_NoPaper) (.ref e_NoPlan) = some false ∧ PySem.W.subIn K (.ref e_NoPaper) (.ref e_NoQuestion) = some false ∧ PySem.W.subIn K (.ref e_NoPaper) (.ref e_NoRow) = some false ∧ PySem.W.subIn K (.ref e_NoPaper) (.ref e_NoState) = some false ∧ PySem.W.subIn K (.ref e_NoPaper) (.ref e_NoStep) = some false ∧ PySem.W.subIn K (.ref e_NoPaper) (.ref e_NoTable) = some false ∧ PySem.W.subIn K (.ref e_NoPaper) (.ref e_NotSo) = some false ∧ PySem.W.subIn K (.ref e_NoPaper) (.ref e_VaultError) = some true)
    (es_NoPlan : PySem.W.subIn K (.ref e_NoPlan) (.ref e_BadThing) = some false ∧ PySem.W.subIn K (.ref e_NoPlan) (.ref e_Clash) = some false ∧ PySem.W.subIn K (.ref e_NoPlan) (.ref e_NoColumn) = some false ∧ PySem.W.subIn K (.ref e_NoPlan) (.ref e_NoName) = some false ∧ PySem.W.subIn K (.ref e_NoPlan) (.ref e_NoPaper) = some false ∧ PySem.W.subIn K (.ref e_NoPlan) (.ref e_NoPlan) = some true ∧ PySem.W.subIn K (.ref e_NoPlan) (.ref e_NoQuestion) = some false ∧ PySem.W.subIn K (.ref e_NoPlan) (.ref e_NoRow) = some false ∧ PySem.W.subIn K (.ref e_NoPlan) (.ref e_NoState) = some false ∧ PySem.W.subIn K (.ref e_NoPlan) (.ref e_NoStep) = some false ∧ PySem.W.subIn K (.ref e_NoPlan) (.ref e_NoTable) = some false ∧ PySem.W.subIn K (.ref e_NoPlan) (.ref e_NotSo) = some false ∧ PySem.W.subIn K (.ref e_NoPlan) (.ref e_VaultError) = some true)
    (es_NoQuestion : PySem.W.subIn K (.ref e_NoQuestion) (.ref e_BadThing) = some false ∧ PySem.W.subIn K (.ref e_NoQuestion) (.ref e_Clash) = some false ∧ PySem.W.subIn K (.ref e_NoQuestion) (.ref e_NoColumn) = some false ∧ PySem.W.subIn K (.ref e_NoQuestion) (.ref e_NoName) = some false ∧ PySem.W.subIn K (.ref e_NoQuestion) (.ref e_NoPaper) = some false ∧ PySem.W.subIn K (.ref e_NoQuestion) (.ref e_NoPlan) = some false ∧ PySem.W.subIn K (.ref e_NoQuestion) (.ref e_NoQuestion) = some true ∧ PySem.W.subIn K (.ref e_NoQuestion) (.ref e_NoRow) = some false ∧ PySem.W.subIn K (.ref e_NoQuestion) (.ref e_NoState) = some false ∧ PySem.W.subIn K (.ref e_NoQuestion) (.ref e_NoStep) = some false ∧ PySem.W.subIn K (.ref e_NoQuestion) (.ref e_NoTable) = some false ∧ PySem.W.subIn K (.ref e_NoQuestion) (.ref e_NotSo) = some false ∧ PySem.W.subIn K (.ref e_NoQuestion) (.ref e_VaultError) = some true)
    (es_NoRow : PySem.W.subIn K (.ref e_NoRow) (.ref e_BadThing) = some false ∧ PySem.W.subIn K (.ref e_NoRow) (.ref e_Clash) = some false ∧ PySem.W.subIn K (.ref e_NoRow) (.ref e_NoColumn) = some false ∧ PySem.W.subIn K (.ref e_NoRow) (.ref e_NoName) = some false ∧ PySem.W.subIn K (.ref e_NoRow) (.ref e_NoPaper) = some false ∧ PySem.W.subIn K (.ref e_NoRow) (.ref e_NoPlan) = some false ∧ PySem.W.subIn K (.ref e_NoRow) (.ref e_NoQuestion) = some false ∧ PySem.W.subIn K (.ref e_NoRow) (.ref e_NoRow) = some true ∧ PySem.W.subIn K (.ref e_NoRow) (.ref e_NoState) = some false ∧ PySem.W.subIn K (.ref e_NoRow) (.ref e_NoStep) = some false ∧ PySem.W.subIn K (.ref e_NoRow) (.ref e_NoTable) = some false ∧ PySem.W.subIn K (.ref e_NoRow) (.ref e_NotSo) = some false ∧ PySem.W.subIn K (.ref e_NoRow) (.ref e_VaultError) = some true)
    (es_NoState : PySem.W.subIn K (.ref e_NoState) (.ref e_BadThing) = some false ∧ PySem.W.subIn K (.ref e_NoState) (.ref e_Clash) = some false ∧ PySem.W.subIn K (.ref e_NoState) (.ref e_NoColumn) = some false ∧ PySem.W.subIn K (.ref e_NoState) (.ref e_NoName) = some false ∧ PySem.W.subIn K (.ref e_NoState) (.ref e_NoPaper) = some false ∧ PySem.W.subIn K (.ref e_NoState) (.ref e_NoPlan) = some false ∧ PySem.W.subIn K (.ref e_NoState) (.ref e_NoQuestion) = some false ∧ PySem.W.subIn K (.ref e_NoState) (.ref e_NoRow) = some false ∧ PySem.W.subIn K (.ref e_NoState) (.ref e_NoState) = some true ∧ PySem.W.subIn K (.ref e_NoState) (.ref e_NoStep) = some false ∧ PySem.W.subIn K (.ref e_NoState) (.ref e_NoTable) = some false ∧ PySem.W.subIn K (.ref e_NoState) (.ref e_NotSo) = some false ∧ PySem.W.subIn K (.ref e_NoState) (.ref e_VaultError) = some true)
    (es_NoStep : PySem.W.subIn K (.ref e_NoStep) (.ref e_BadThing) = some false ∧ PySem.W.subIn K (.ref e_NoStep) (.ref e_Clash) = some false ∧ PySem.W.subIn K (.ref e_NoStep) (.ref e_NoColumn) = some false ∧ PySem.W.subIn K (.ref e_NoStep) (.ref e_NoName) = some false ∧ PySem.W.subIn K (.ref e_NoStep) (.ref e_NoPaper) = some false ∧ PySem.W.subIn K (.ref e_NoStep) (.ref e_NoPlan) = some false ∧ PySem.W.subIn K (.ref e_NoStep) (.ref e_NoQuestion) = some false ∧ PySem.W.subIn K (.ref e_NoStep) (.ref e_NoRow) = some false ∧ PySem.W.subIn K (.ref e_NoStep) (.ref e_NoState) = some false ∧ PySem.W.subIn K (.ref e_NoStep) (.ref e_NoStep) = some true ∧ PySem.W.subIn K (.ref e_NoStep) (.ref e_NoTable) = some false ∧ PySem.W.subIn K (.ref e_NoStep) (.ref e_NotSo) = some false ∧ PySem.W.subIn K (.ref e_NoStep) (.ref e_VaultError) = some true)
    (es_NoTable : PySem.W.subIn K (.ref e_NoTable) (.ref e_BadThing) = some false ∧ PySem.W.subIn K (.ref e_NoTable) (.ref e_Clash) = some false ∧ PySem.W.subIn K (.ref e_NoTable) (.ref e_NoColumn) = some false ∧ PySem.W.subIn K (.ref e_NoTable) (.ref e_NoName) = some false ∧ PySem.W.subIn K (.ref e_NoTable) (.ref e_NoPaper) = some false ∧ PySem.W.subIn K (.ref e_NoTable) (.ref e_NoPlan) = some false ∧ PySem.W.subIn K (.ref e_NoTable) (.ref e_NoQuestion) = some false ∧ PySem.W.subIn K (.ref e_NoTable) (.ref e_NoRow) = some false ∧ PySem.W.subIn K (.ref e_NoTable) (.ref e_NoState) = some false ∧ PySem.W.subIn K (.ref e_NoTable) (.ref e_NoStep) = some false ∧ PySem.W.subIn K (.ref e_NoTable) (.ref e_NoTable) = some true ∧ PySem.W.subIn K (.ref e_NoTable) (.ref e_NotSo) = some false ∧ PySem.W.subIn K (.ref e_NoTable) (.ref e_VaultError) = some true)
    (es_NotSo : PySem.W.subIn K (.ref e_NotSo) (.ref e_BadThing) = some false ∧ PySem.W.subIn K (.ref e_NotSo) (.ref e_Clash) = some false ∧ PySem.W.subIn K (.ref e_NotSo) (.ref e_NoColumn) = some false ∧ PySem.W.subIn K (.ref e_NotSo) (.ref e_NoName) = some false ∧ PySem.W.subIn K (.ref e_NotSo) (.ref e_NoPaper) = some false ∧ PySem.W.subIn K (.ref e_NotSo) (.ref e_NoPlan) = some false ∧ PySem.W.subIn K (.ref e_NotSo) (.ref e_NoQuestion) = some false ∧ PySem.W.subIn K (.ref e_NotSo) (.ref e_NoRow) = some false ∧ PySem.W.subIn K (.ref e_NotSo) (.ref e_NoState) = some false ∧ PySem.W.subIn K (.ref e_NotSo) (.ref e_NoStep) = some false ∧ PySem.W.subIn K (.ref e_NotSo) (.ref e_NoTable) = some false ∧ PySem.W.subIn K (.ref e_NotSo) (.ref e_NotSo) = some true ∧ PySem.W.subIn K (.ref e_NotSo) (.ref e_VaultError) = some true)
    (es_VaultError : PySem.W.subIn K (.ref e_VaultError) (.ref e_BadThing) = some false ∧ PySem.W.subIn K (.ref e_VaultError) (.ref e_Clash) = some false ∧ PySem.W.subIn K (.ref e_VaultError) (.ref e_NoColumn) = some false ∧ PySem.W.subIn K (.ref e_VaultError) (.ref e_NoName) = some false ∧ PySem.W.subIn K (.ref e_VaultError) (.ref e_NoPaper) = some false ∧ PySem.W.subIn K (.ref e_VaultError) (.ref e_NoPlan) = some false ∧ PySem.W.subIn K (.ref e_VaultError) (.ref e_NoQuestion) = some false ∧ PySem.W.subIn K (.ref e_VaultError) (.ref e_NoRow) = some false ∧ PySem.W.subIn K (.ref e_VaultError) (.ref e_NoState) = some false ∧ PySem.W.subIn K (.ref e_VaultError) (.ref e_NoStep) = some false ∧ PySem.W.subIn K (.ref e_VaultError) (.ref e_NoTable) = some false ∧ PySem.W.subIn K (.ref e_VaultError) (.ref e_NotSo) = some false ∧ PySem.W.subIn K (.ref e_VaultError) (.ref e_VaultError) = some true)
    : ∃ fd : FuncData, (∀ (s : Shared) (v : Value), BindsTo s fd ⟨[v], []⟩ [("script", v)]) ∧ ∀ base : Heap, K.In base → base.Ns mainGlobals mg → FnOk l.prog w K mg base (L2.CX l.prog w) 40 fa fd ["script"] (rawSp K) := by
  have e := hfa.symm.trans (PySem.W.mg_of X G n384)
  cases e
  have F182 := fun_mk (st := st_is_value) l182 c182 k182
  have F186 := fun_mk (st := st_words_in) l186 c186 k186
  have F181 := fun_mk (st := st_number_of) l181 c181 k181
  have F189 := fun_mk (st := st_value_of) l189 c189 k189
  have F190 := fun_mk (st := st_law_hand) l190 c190 k190
  have F183 := fun_mk (st := st_law_draw) l183 c183 k183
  have F184 := fun_mk (st := st_law_text) l184 c184 k184
  have F191 := fun_mk (st := st_law_value) l191 c191 k191
  have F187 := fun_mk (st := st_law_refused) l187 c187 k187
  have F185 := fun_mk (st := st_law_parted) l185 c185 k185
  have F188 := fun_mk (st := st_law_worth) l188 c188 k188
  have F192 := fun_mk (st := st_law_words_right) l192 c192 k192
  have F193 := fun_mk (st := st_law_value_right) l193 c193 k193
  have F194 := fun_mk (st := st_law_piece) l194 c194 k194
  have F384 := fun_mk (st := st_law) l384 c384 k384
  have B182 := F182.binds (ps := [(Str.ofString "thing")]) fun _ _ _ _ _ _ us hl => match us, hl with | [_], _ => rfl
  have B186 := F186.binds (ps := [(Str.ofString "text")]) fun _ _ _ _ _ _ us hl => match us, hl with | [_], _ => rfl
  have B181 := F181.binds (ps := [(Str.ofString "word")]) fun _ _ _ _ _ _ us hl => match us, hl with | [_], _ => rfl
  have B189 := F189.binds (ps := [(Str.ofString "word")]) fun _ _ _ _ _ _ us hl => match us, hl with | [_], _ => rfl
  have B190 := F190.binds (ps := [(Str.ofString "script"), (Str.ofString "cell"), (Str.ofString "k")]) fun _ _ _ _ _ _ us hl => match us, hl with | [_, _, _], _ => rfl
  have B183 := F183.binds (ps := [(Str.ofString "hand"), (Str.ofString "limit")]) fun _ _ _ _ _ _ us hl => match us, hl with | [_, _], _ => rfl
  have B184 := F184.binds (ps := [(Str.ofString "hand"), (Str.ofString "most")]) fun _ _ _ _ _ _ us hl => match us, hl with | [_, _], _ => rfl
  have B191 := F191.binds (ps := [(Str.ofString "hand")]) fun _ _ _ _ _ _ us hl => match us, hl with | [_], _ => rfl
  have B187 := F187.binds (ps := [(Str.ofString "caught")]) fun _ _ _ _ _ _ us hl => match us, hl with | [_], _ => rfl
  have B185 := F185.binds (ps := [(Str.ofString "text")]) fun _ _ _ _ _ _ us hl => match us, hl with | [_], _ => rfl
  have B188 := F188.binds (ps := [(Str.ofString "word")]) fun _ _ _ _ _ _ us hl => match us, hl with | [_], _ => rfl
  have B192 := F192.binds (ps := [(Str.ofString "thing")]) fun _ _ _ _ _ _ us hl => match us, hl with | [_], _ => rfl
  have B193 := F193.binds (ps := [(Str.ofString "word")]) fun _ _ _ _ _ _ us hl => match us, hl with | [_], _ => rfl
  have B194 := F194.binds (ps := [(Str.ofString "hand")]) fun _ _ _ _ _ _ us hl => match us, hl with | [_], _ => rfl
  have exK : ExK K mg (clOf w [("BadThing", e_BadThing), ("Clash", e_Clash), ("NoColumn", e_NoColumn), ("NoName", e_NoName), ("NoPaper", e_NoPaper), ("NoPlan", e_NoPlan), ("NoQuestion", e_NoQuestion), ("NoRow", e_NoRow), ("NoState", e_NoState), ("NoStep", e_NoStep), ("NoTable", e_NoTable), ("NotSo", e_NotSo), ("VaultError", e_VaultError)]) := by
    exact exK_mk (l := [("BadThing", e_BadThing), ("Clash", e_Clash), ("NoColumn", e_NoColumn), ("NoName", e_NoName), ("NoPaper", e_NoPaper), ("NoPlan", e_NoPlan), ("NoQuestion", e_NoQuestion), ("NoRow", e_NoRow), ("NoState", e_NoState), ("NoStep", e_NoStep), ("NoTable", e_NoTable), ("NotSo", e_NotSo), ("VaultError", e_VaultError)]) (fun n hn a h => clOf_mem h) (allc (PySem.W.mg_of X G en_BadThing) (allc (PySem.W.mg_of X G en_Clash) (allc (PySem.W.mg_of X G en_NoColumn) (allc (PySem.W.mg_of X G en_NoName) (allc (PySem.W.mg_of X G en_NoPaper) (allc (PySem.W.mg_of X G en_NoPlan) (allc (PySem.W.mg_of X G en_NoQuestion) (allc (PySem.W.mg_of X G en_NoRow) (allc (PySem.W.mg_of X G en_NoState) (allc (PySem.W.mg_of X G en_NoStep) (allc (PySem.W.mg_of X G en_NoTable) (allc (PySem.W.mg_of X G en_NotSo) (allc (PySem.W.mg_of X G en_VaultError) alln))))))))))))) (allc (ef_BadThing) (allc (ef_Clash) (allc (ef_NoColumn) (allc (ef_NoName) (allc (ef_NoPaper) (allc (ef_NoPlan) (allc (ef_NoQuestion) (allc (ef_NoRow) (allc (ef_NoState) (allc (ef_NoStep) (allc (ef_NoTable) (allc (ef_NotSo) (allc (ef_VaultError) alln))))))))))))) (allc (fun _ => eo_BadThing) (allc (fun hc => absurd rfl hc) (allc (fun _ => eo_NoColumn) (allc (fun _ => eo_NoName) (allc (fun _ => eo_NoPaper) (allc (fun _ => eo_NoPlan) (allc (fun _ => eo_NoQuestion) (allc (fun _ => eo_NoRow) (allc (fun _ => eo_NoState) (allc (fun _ => eo_NoStep) (allc (fun _ => eo_NoTable) (allc (fun _ => eo_NotSo) (allc (fun _ => eo_VaultError) alln))))))))))))) (allc ((allc ((es_BadThing.1).trans (congrArg some (show true = subX "BadThing" "BadThing" from by decide))) (allc ((es_BadThing.2.1).trans (congrArg some (show false = subX "BadThing" "Clash" from by decide))) (allc ((es_BadThing.2.2.1).trans (congrArg some (show false = subX "BadThing" "NoColumn" from by decide))) (allc ((es_BadThing.2.2.2.1).trans (congrArg some (show false = subX "BadThing" "NoName" from by decide))) (allc ((es_BadThing.2.2.2.2.1).trans (congrArg some (show false = subX "BadThing" "NoPaper" from by decide))) (allc ((es_BadThing.2.2.2.2.2.1).trans (congrArg some (show false = subX "BadThing" "NoPlan" from by decide))) (allc ((es_BadThing.2.2.2.2.2.2.1).trans (congrArg some (show false = subX "BadThing" "NoQuestion" from by decide))) (allc ((es_BadThing.2.2.2.2.2.2.2.1).trans (congrArg some (show false = subX "BadThing" "NoRow" from by decide))) (allc ((es_BadThing.2.2.2.2.2.2.2.2.1).trans (congrArg some (show false = subX "BadThing" "NoState" from by decide))) (allc ((es_BadThing.2.2.2.2.2.2.2.2.2.1).trans (congrArg some (show false = subX "BadThing" "NoStep" from by decide))) (allc ((es_BadThing.2.2.2.2.2.2.2.2.2.2.1).trans (congrArg some (show false = subX "BadThing" "NoTable" from by decide))) (allc ((es_BadThing.2.2.2.2.2.2.2.2.2.2.2.1).trans (congrArg some (show false = subX "BadThing" "NotSo" from by decide))) (allc ((es_BadThing.2.2.2.2.2.2.2.2.2.2.2.2).trans (congrArg some (show true = subX "BadThing" "VaultError" from by decide))) alln)))))))))))))) (allc ((allc ((es_Clash.1).trans (congrArg some (show false = subX "Clash" "BadThing" from by decide))) (allc ((es_Clash.2.1).trans (congrArg some (show true = subX "Clash" "Clash" from by decide))) (allc ((es_Clash.2.2.1).trans (congrArg some (show false = subX "Clash" "NoColumn" from by decide))) (allc ((es_Clash.2.2.2.1).trans (congrArg some (show false = subX "Clash" "NoName" from by decide))) (allc ((es_Clash.2.2.2.2.1).trans (congrArg some (show false = subX "Clash" "NoPaper" from by decide))) (allc ((es_Clash.2.2.2.2.2.1).trans (congrArg some (show false = subX "Clash" "NoPlan" from by decide))) (allc ((es_Clash.2.2.2.2.2.2.1).trans (congrArg some (show false = subX "Clash" "NoQuestion" from by decide))) (allc ((es_Clash.2.2.2.2.2.2.2.1).trans (congrArg some (show false = subX "Clash" "NoRow" from by decide))) (allc ((es_Clash.2.2.2.2.2.2.2.2.1).trans (congrArg some (show false = subX "Clash" "NoState" from by decide))) (allc ((es_Clash.2.2.2.2.2.2.2.2.2.1).trans (congrArg some (show false = subX "Clash" "NoStep" from by decide))) (allc ((es_Clash.2.2.2.2.2.2.2.2.2.2.1).trans (congrArg some (show false = subX "Clash" "NoTable" from by decide))) (allc ((es_Clash.2.2.2.2.2.2.2.2.2.2.2.1).trans (congrArg some (show false = subX "Clash" "NotSo" from by decide))) (allc ((es_Clash.2.2.2.2.2.2.2.2.2.2.2.2).trans (congrArg some (show true = subX "Clash" "VaultError" from by decide))) alln)))))))))))))) (allc ((allc ((es_NoColumn.1).trans (congrArg some (show false = subX "NoColumn" "BadThing" from by decide))) (allc ((es_NoColumn.2.1).trans (congrArg some (show false = subX "NoColumn" "Clash" from by decide))) (allc ((es_NoColumn.2.2.1).trans (congrArg some (show true = subX "NoColumn" "NoColumn" from by decide))) (allc ((es_NoColumn.2.2.2.1).trans (congrArg some (show false = subX "NoColumn" "NoName" from by decide))) (allc ((es_NoColumn.2.2.2.2.1).trans (congrArg some (show false = subX "NoColumn" "NoPaper" from by decide))) (allc ((es_NoColumn.2.2.2.2.2.1).trans (congrArg some (show false = subX "NoColumn" "NoPlan" from by decide))) (allc ((es_NoColumn.2.2.2.2.2.2.1).trans (congrArg some (show false = subX "NoColumn" "NoQuestion" from by decide))) (allc ((es_NoColumn.2.2.2.2.2.2.2.1).trans (congrArg some (show false = subX "NoColumn" "NoRow" from by decide))) (allc ((es_NoColumn.2.2.2.2.2.2.2.2.1).trans (congrArg some (show false = subX "NoColumn" "NoState" from by decide))) (allc ((es_NoColumn.2.2.2.2.2.2.2.2.2.1).trans (congrArg some (show false = subX "NoColumn" "NoStep" from by decide))) (allc ((es_NoColumn.2.2.2.2.2.2.2.2.2.2.1).trans (congrArg some (show false = subX "NoColumn" "NoTable" from by decide))) (allc ((es_NoColumn.2.2.2.2.2.2.2.2.2.2.2.1).trans (congrArg some (show false = subX "NoColumn" "NotSo" from by decide))) (allc ((es_NoColumn.2.2.2.2.2.2.2.2.2.2.2.2).trans (congrArg some (show true = subX "NoColumn" "VaultError" from by decide))) alln)))))))))))))) (allc ((allc ((es_NoName.1).trans (congrArg some (show false = subX "NoName" "BadThing" from by decide))) (allc ((es_NoName.2.1).trans (congrArg some (show false = subX "NoName" "Clash" from by decide))) (allc ((es_NoName.2.2.1).trans (congrArg some (show false = subX "NoName" "NoColumn" from by decide))) (allc ((es_NoName.2.2.2.1).trans (congrArg some (show true = subX "NoName" "NoName" from by decide))) (allc ((es_NoName.2.2.2.2.1).trans (congrArg some (show false = subX "NoName" "NoPaper" from by decide))) (allc ((es_NoName.2.2.2.2.2.1).trans (congrArg some (show false = subX "NoName" "NoPlan" from by decide))) (allc ((es_NoName.2.2.2.2.2.2.1).trans (congrArg some (show false = subX "NoName" "NoQuestion" from by decide))) (allc ((es_NoName.2.2.2.2.2.2.2.1).trans (congrArg some (show false = subX "NoName" "NoRow" from by decide))) (allc ((es_NoName.2.2.2.2.2.2.2.2.1).trans (congrArg some (show false = subX "NoName" "NoState" from by decide))) (allc ((es_NoName.2.2.2.2.2.2.2.2.2.1).trans (congrArg some (show false = subX "NoName" "NoStep" from by decide))) (allc ((es_NoName.2.2.2.2.2.2.2.2.2.2.1).trans (congrArg some (show false = subX "NoName" "NoTable" from by decide))) (allc ((es_NoName.2.2.2.2.2.2.2.2.2.2.2.1).trans (congrArg some (show false = subX "NoName" "NotSo" from by decide))) (allc ((es_NoName.2.2.2.2.2.2.2.2.2.2.2.2).trans (congrArg some (show true = subX "NoName" "VaultError" from by decide))) alln)))))))))))))) (allc ((allc ((es_NoPaper.1).trans (congrArg some (show false = subX "NoPaper" "BadThing" from by decide))) (allc ((es_NoPaper.2.1).trans (congrArg some (show false = subX "NoPaper" "Clash" from by decide))) (allc ((es_NoPaper.2.2.1).trans (congrArg some (show false = subX "NoPaper" "NoColumn" from by decide))) (allc ((es_NoPaper.2.2.2.1).trans (congrArg some (show false = subX "NoPaper" "NoName" from by decide))) (allc ((es_NoPaper.2.2.2.2.1).trans (congrArg some (show true = subX "NoPaper" "NoPaper" from by decide))) (allc ((es_NoPaper.2.2.2.2.2.1).trans (congrArg some (show false = subX "NoPaper" "NoPlan" from by decide))) (allc ((es_NoPaper.2.2.2.2.2.2.1).trans (congrArg some (show false = subX "NoPaper" "NoQuestion" from by decide))) (allc ((es_NoPaper.2.2.2.2.2.2.2.1).trans (congrArg some (show false = subX "NoPaper" "NoRow" from by decide))) (allc ((es_NoPaper.2.2.2.2.2.2.2.2.1).trans (congrArg some (show false = subX "NoPaper" "NoState" from by decide))) (allc ((es_NoPaper.2.2.2.2.2.2.2.2.2.1).trans (congrArg some (show false = subX "NoPaper" "NoStep" from by decide))) (allc ((es_NoPaper.2.2.2.2.2.2.2.2.2.2.1).trans (congrArg some (show false = subX "NoPaper" "NoTable" from by decide))) (allc ((es_NoPaper.2.2.2.2.2.2.2.2.2.2.2.1).trans (congrArg some (show false = subX "NoPaper" "NotSo" from by decide))) (allc ((es_NoPaper.2.2.2.2.2.2.2.2.2.2.2.2).trans (congrArg some (show true = subX "NoPaper" "VaultError" from by decide))) alln)))))))))))))) (allc ((allc ((es_NoPlan.1).trans (congrArg some (show false = subX "NoPlan" "BadThing" from by decide))) (allc ((es_NoPlan.2.1).trans (congrArg some (show false = subX "NoPlan" "Clash" from by decide))) (allc ((es_NoPlan.2.2.1).trans (congrArg some (show false = subX "NoPlan" "NoColumn" from by decide))) (allc ((es_NoPlan.2.2.2.1).trans (congrArg some (show false = subX "NoPlan" "NoName" from by decide))) (allc ((es_NoPlan.2.2.2.2.1).trans (congrArg some (show false = subX "NoPlan" "NoPaper" from by decide))) (allc ((es_NoPlan.2.2.2.2.2.1).trans (congrArg some (show true = subX "NoPlan" "NoPlan" from by decide))) (allc ((es_NoPlan.2.2.2.2.2.2.1).trans (congrArg some (show false = subX "NoPlan" "NoQuestion" from by decide))) (allc ((es_NoPlan.2.2.2.2.2.2.2.1).trans (congrArg some (show false = subX "NoPlan" "NoRow" from by decide))) (allc ((es_NoPlan.2.2.2.2.2.2.2.2.1).trans (congrArg some (show false = subX "NoPlan" "NoState" from by decide))) (allc ((es_NoPlan.2.2.2.2.2.2.2.2.2.1).trans (congrArg some (show false = subX "NoPlan" "NoStep" from by decide))) (allc ((es_NoPlan.2.2.2.2.2.2.2.2.2.2.1).trans (congrArg some (show false = subX "NoPlan" "NoTable" from by decide))) (allc ((es_NoPlan.2.2.2.2.2.2.2.2.2.2.2.1).trans (congrArg some (show false = subX "NoPlan" "NotSo" from by decide))) (allc ((es_NoPlan.2.2.2.2.2.2.2.2.2.2.2.2).trans (congrArg some (show true = subX "NoPlan" "VaultError" from by decide))) alln)))))))))))))) (allc ((allc ((es_NoQuestion.1).trans (congrArg some (show false = subX "NoQuestion" "BadThing" from by decide))) (allc ((es_NoQuestion.2.1).trans (congrArg some (show false = subX "NoQuestion" "Clash" from by decide))) (allc ((es_NoQuestion.2.2.1).trans (congrArg some (show false = subX "NoQuestion" "NoColumn" from by decide))) (allc ((es_NoQuestion.2.2.2.1).trans (congrArg some (show false = subX "NoQuestion" "NoName" from by decide))) (allc ((es_NoQuestion.2.2.2.2.1).trans (congrArg some (show false = subX "NoQuestion" "NoPaper" from by decide))) (allc ((es_NoQuestion.2.2.2.2.2.1).trans (congrArg some (show false = subX "NoQuestion" "NoPlan" from by decide))) (allc ((es_NoQuestion.2.2.2.2.2.2.1).trans (congrArg some (show true = subX "NoQuestion" "NoQuestion" from by decide))) (allc ((es_NoQuestion.2.2.2.2.2.2.2.1).trans (congrArg some (show false = subX "NoQuestion" "NoRow" from by decide))) (allc ((es_NoQuestion.2.2.2.2.2.2.2.2.1).trans (congrArg some (show false = subX "NoQuestion" "NoState" from by decide))) (allc ((es_NoQuestion.2.2.2.2.2.2.2.2.2.1).trans (congrArg some (show false = subX "NoQuestion" "NoStep" from by decide))) (allc ((es_NoQuestion.2.2.2.2.2.2.2.2.2.2.1).trans (congrArg some (show false = subX "NoQuestion" "NoTable" from by decide))) (allc ((es_NoQuestion.2.2.2.2.2.2.2.2.2.2.2.1).trans (congrArg some (show false = subX "NoQuestion" "NotSo" from by decide))) (allc ((es_NoQuestion.2.2.2.2.2.2.2.2.2.2.2.2).trans (congrArg some (show true = subX "NoQuestion" "VaultError" from by decide))) alln)))))))))))))) (allc ((allc ((es_NoRow.1).trans (congrArg some (show false = subX "NoRow" "BadThing" from by decide))) (allc ((es_NoRow.2.1).trans (congrArg some (show false = subX "NoRow" "Clash" from by decide))) (allc ((es_NoRow.2.2.1).trans (congrArg some (show false = subX "NoRow" "NoColumn" from by decide))) (allc ((es_NoRow.2.2.2.1).trans (congrArg some (show false = subX "NoRow" "NoName" from by decide))) (allc ((es_NoRow.2.2.2.2.1).trans (congrArg some (show false = subX "NoRow" "NoPaper" from by decide))) (allc ((es_NoRow.2.2.2.2.2.1).trans (congrArg some (show false = subX "NoRow" "NoPlan" from by decide))) (allc ((es_NoRow.2.2.2.2.2.2.1).trans (congrArg some (show false = subX "NoRow" "NoQuestion" from by decide))) (allc ((es_NoRow.2.2.2.2.2.2.2.1).trans (congrArg some (show true = subX "NoRow" "NoRow" from by decide))) (allc ((es_NoRow.2.2.2.2.2.2.2.2.1).trans (congrArg some (show false = subX "NoRow" "NoState" from by decide))) (allc ((es_NoRow.2.2.2.2.2.2.2.2.2.1).trans (congrArg some (show false = subX "NoRow" "NoStep" from by decide))) (allc ((es_NoRow.2.2.2.2.2.2.2.2.2.2.1).trans (congrArg some (show false = subX "NoRow" "NoTable" from by decide))) (allc ((es_NoRow.2.2.2.2.2.2.2.2.2.2.2.1).trans (congrArg some (show false = subX "NoRow" "NotSo" from by decide))) (allc ((es_NoRow.2.2.2.2.2.2.2.2.2.2.2.2).trans (congrArg some (show true = subX "NoRow" "VaultError" from by decide))) alln)))))))))))))) (allc ((allc ((es_NoState.1).trans (congrArg some (show false = subX "NoState" "BadThing" from by decide))) (allc ((es_NoState.2.1).trans (congrArg some (show false = subX "NoState" "Clash" from by decide))) (allc ((es_NoState.2.2.1).trans (congrArg some (show false = subX "NoState" "NoColumn" from by decide))) (allc ((es_NoState.2.2.2.1).trans (congrArg some (show false = subX "NoState" "NoName" from by decide))) (allc ((es_NoState.2.2.2.2.1).trans (congrArg some (show false = subX "NoState" "NoPaper" from by decide))) (allc ((es_NoState.2.2.2.2.2.1).trans (congrArg some (show false = subX "NoState" "NoPlan" from by decide))) (allc ((es_NoState.2.2.2.2.2.2.1).trans (congrArg some (show false = subX "NoState" "NoQuestion" from by decide))) (allc ((es_NoState.2.2.2.2.2.2.2.1).trans (congrArg some (show false = subX "NoState" "NoRow" from by decide))) (allc ((es_NoState.2.2.2.2.2.2.2.2.1).trans (congrArg some (show true = subX "NoState" "NoState" from by decide))) (allc ((es_NoState.2.2.2.2.2.2.2.2.2.1).trans (congrArg some (show false = subX "NoState" "NoStep" from by decide))) (allc ((es_NoState.2.2.2.2.2.2.2.2.2.2.1).trans (congrArg some (show false = subX "NoState" "NoTable" from by decide))) (allc ((es_NoState.2.2.2.2.2.2.2.2.2.2.2.1).trans (congrArg some (show false = subX "NoState" "NotSo" from by decide))) (allc ((es_NoState.2.2.2.2.2.2.2.2.2.2.2.2).trans (congrArg some (show true = subX "NoState" "VaultError" from by decide))) alln)))))))))))))) (allc ((allc ((es_NoStep.1).trans (congrArg some (show false = subX "NoStep" "BadThing" from by decide))) (allc ((es_NoStep.2.1).trans (congrArg some (show false = subX "NoStep" "Clash" from by decide))) (allc ((es_NoStep.2.2.1).trans (congrArg some (show false = subX "NoStep" "NoColumn" from by decide))) (allc ((es_NoStep.2.2.2.1).trans (congrArg some (show false = subX "NoStep" "NoName" from by decide))) (allc ((es_NoStep.2.2.2.2.1).trans (congrArg some (show false = subX "NoStep" "NoPaper" from by decide))) (allc ((es_NoStep.2.2.2.2.2.1).trans (congrArg some (show false = subX "NoStep" "NoPlan" from by decide))) (allc ((es_NoStep.2.2.2.2.2.2.1).trans (congrArg some (show false = subX "NoStep" "NoQuestion" from by decide))) (allc ((es_NoStep.2.2.2.2.2.2.2.1).trans (congrArg some (show false = subX "NoStep" "NoRow" from by decide))) (allc ((es_NoStep.2.2.2.2.2.2.2.2.1).trans (congrArg some (show false = subX "NoStep" "NoState" from by decide))) (allc ((es_NoStep.2.2.2.2.2.2.2.2.2.1).trans (congrArg some (show true = subX "NoStep" "NoStep" from by decide))) (allc ((es_NoStep.2.2.2.2.2.2.2.2.2.2.1).trans (congrArg some (show false = subX "NoStep" "NoTable" from by decide))) (allc ((es_NoStep.2.2.2.2.2.2.2.2.2.2.2.1).trans (congrArg some (show false = subX "NoStep" "NotSo" from by decide))) (allc ((es_NoStep.2.2.2.2.2.2.2.2.2.2.2.2).trans (congrArg some (show true = subX "NoStep" "VaultError" from by decide))) alln)))))))))))))) (allc ((allc ((es_NoTable.1).trans (congrArg some (show false = subX "NoTable" "BadThing" from by decide))) (allc ((es_NoTable.2.1).trans (congrArg some (show false = subX "NoTable" "Clash" from by decide))) (allc ((es_NoTable.2.2.1).trans (congrArg some (show false = subX "NoTable" "NoColumn" from by decide))) (allc ((es_NoTable.2.2.2.1).trans (congrArg some (show false = subX "NoTable" "NoName" from by decide))) (allc ((es_NoTable.2.2.2.2.1).trans (congrArg some (show false = subX "NoTable" "NoPaper" from by decide))) (allc ((es_NoTable.2.2.2.2.2.1).trans (congrArg some (show false = subX "NoTable" "NoPlan" from by decide))) (allc ((es_NoTable.2.2.2.2.2.2.1).trans (congrArg some (show false = subX "NoTable" "NoQuestion" from by decide))) (allc ((es_NoTable.2.2.2.2.2.2.2.1).trans (congrArg some (show false = subX "NoTable" "NoRow" from by decide))) (allc ((es_NoTable.2.2.2.2.2.2.2.2.1).trans (congrArg some (show false = subX "NoTable" "NoState" from by decide))) (allc ((es_NoTable.2.2.2.2.2.2.2.2.2.1).trans (congrArg some (show false = subX "NoTable" "NoStep" from by decide))) (allc ((es_NoTable.2.2.2.2.2.2.2.2.2.2.1).trans (congrArg some (show true = subX "NoTable" "NoTable" from by decide))) (allc ((es_NoTable.2.2.2.2.2.2.2.2.2.2.2.1).trans (congrArg some (show false = subX "NoTable" "NotSo" from by decide))) (allc ((es_NoTable.2.2.2.2.2.2.2.2.2.2.2.2).trans (congrArg some (show true = subX "NoTable" "VaultError" from by decide))) alln)))))))))))))) (allc ((allc ((es_NotSo.1).trans (congrArg some (show false = subX "NotSo" "BadThing" from by decide))) (allc ((es_NotSo.2.1).trans (congrArg some (show false = subX "NotSo" "Clash" from by decide))) (allc ((es_NotSo.2.2.1).trans (congrArg some (show false = subX "NotSo" "NoColumn" from by decide))) (allc ((es_NotSo.2.2.2.1).trans (congrArg some (show false = subX "NotSo" "NoName" from by decide))) (allc ((es_NotSo.2.2.2.2.1).trans (congrArg some (show false = subX "NotSo" "NoPaper" from by decide))) (allc ((es_NotSo.2.2.2.2.2.1).trans (congrArg some (show false = subX "NotSo" "NoPlan" from by decide))) (allc ((es_NotSo.2.2.2.2.2.2.1).trans (congrArg some (show false = subX "NotSo" "NoQuestion" from by decide))) (allc ((es_NotSo.2.2.2.2.2.2.2.1).trans (congrArg some (show false = subX "NotSo" "NoRow" from by decide))) (allc ((es_NotSo.2.2.2.2.2.2.2.2.1).trans (congrArg some (show false = subX "NotSo" "NoState" from by decide))) (allc ((es_NotSo.2.2.2.2.2.2.2.2.2.1).trans (congrArg some (show false = subX "NotSo" "NoStep" from by decide))) (allc ((es_NotSo.2.2.2.2.2.2.2.2.2.2.1).trans (congrArg some (show false = subX "NotSo" "NoTable" from by decide))) (allc ((es_NotSo.2.2.2.2.2.2.2.2.2.2.2.1).trans (congrArg some (show true = subX "NotSo" "NotSo" from by decide))) (allc ((es_NotSo.2.2.2.2.2.2.2.2.2.2.2.2).trans (congrArg some (show true = subX "NotSo" "VaultError" from by decide))) alln)))))))))))))) (allc ((allc ((es_VaultError.1).trans (congrArg some (show false = subX "VaultError" "BadThing" from by decide))) (allc ((es_VaultError.2.1).trans (congrArg some (show false = subX "VaultError" "Clash" from by decide))) (allc ((es_VaultError.2.2.1).trans (congrArg some (show false = subX "VaultError" "NoColumn" from by decide))) (allc ((es_VaultError.2.2.2.1).trans (congrArg some (show false = subX "VaultError" "NoName" from by decide))) (allc ((es_VaultError.2.2.2.2.1).trans (congrArg some (show false = subX "VaultError" "NoPaper" from by decide))) (allc ((es_VaultError.2.2.2.2.2.1).trans (congrArg some (show false = subX "VaultError" "NoPlan" from by decide))) (allc ((es_VaultError.2.2.2.2.2.2.1).trans (congrArg some (show false = subX "VaultError" "NoQuestion" from by decide))) (allc ((es_VaultError.2.2.2.2.2.2.2.1).trans (congrArg some (show false = subX "VaultError" "NoRow" from by decide))) (allc ((es_VaultError.2.2.2.2.2.2.2.2.1).trans (congrArg some (show false = subX "VaultError" "NoState" from by decide))) (allc ((es_VaultError.2.2.2.2.2.2.2.2.2.1).trans (congrArg some (show false = subX "VaultError" "NoStep" from by decide))) (allc ((es_VaultError.2.2.2.2.2.2.2.2.2.2.1).trans (congrArg some (show false = subX "VaultError" "NoTable" from by decide))) (allc ((es_VaultError.2.2.2.2.2.2.2.2.2.2.2.1).trans (congrArg some (show false = subX "VaultError" "NotSo" from by decide))) (allc ((es_VaultError.2.2.2.2.2.2.2.2.2.2.2.2).trans (congrArg some (show true = subX "VaultError" "VaultError" from by decide))) alln)))))))))))))) alln)))))))))))))
  have W : ∀ (base : Heap), ∀ L, Wd l.prog w K mg base (clOf w [("BadThing", e_BadThing), ("Clash", e_Clash), ("NoColumn", e_NoColumn), ("NoName", e_NoName), ("NoPaper", e_NoPaper), ("NoPlan", e_NoPlan), ("NoQuestion", e_NoQuestion), ("NoRow", e_NoRow), ("NoState", e_NoState), ("NoStep", e_NoStep), ("NoTable", e_NoTable), ("NotSo", e_NotSo), ("VaultError", e_VaultError)]) TT (adT a182 a186 a181 a189 a190 a183 a184 a191 a187 a185 a188 a192 a193 a194) L := by
    intro base L
    induction L with
    | zero => exact ⟨kn_mk (PySem.W.mg_of X G n182) F182 B182 fn0,
        kn_mk (PySem.W.mg_of X G n186) F186 B186 fn0,
        kn_mk (PySem.W.mg_of X G n181) F181 B181 fn0,
        kn_mk (PySem.W.mg_of X G n189) F189 B189 fn0,
        kn_mk (PySem.W.mg_of X G n190) F190 B190 fn0,
        kn_mk (PySem.W.mg_of X G n183) F183 B183 fn0,
        kn_mk (PySem.W.mg_of X G n184) F184 B184 fn0,
        kn_mk (PySem.W.mg_of X G n191) F191 B191 fn0,
        kn_mk (PySem.W.mg_of X G n187) F187 B187 fn0,
        kn_mk (PySem.W.mg_of X G n185) F185 B185 fn0,
        kn_mk (PySem.W.mg_of X G n188) F188 B188 fn0,
        kn_mk (PySem.W.mg_of X G n192) F192 B192 fn0,
        kn_mk (PySem.W.mg_of X G n193) F193 B193 fn0,
        kn_mk (PySem.W.mg_of X G n194) F194 B194 fn0,
        PySem.W.mg_none_of X G z_ValueError,
        PySem.W.mg_none_of X G z_bool,
        PySem.W.mg_none_of X G z_enumerate,
        PySem.W.mg_none_of X G z_int,
        PySem.W.mg_none_of X G z_isinstance,
        PySem.W.mg_none_of X G z_len,
        PySem.W.mg_none_of X G z_list,
        PySem.W.mg_none_of X G z_ord,
        PySem.W.mg_none_of X G z_range,
        PySem.W.mg_none_of X G z_str,
        PySem.W.mg_none_of X G z_sum,
        exK,
        ⟨e_BadThing, by simp [clOf, List.lookup]⟩,
        ⟨e_Clash, by simp [clOf, List.lookup]⟩,
        ⟨e_NoColumn, by simp [clOf, List.lookup]⟩,
        ⟨e_NoName, by simp [clOf, List.lookup]⟩,
        ⟨e_NoPaper, by simp [clOf, List.lookup]⟩,
        ⟨e_NoPlan, by simp [clOf, List.lookup]⟩,
        ⟨e_NoQuestion, by simp [clOf, List.lookup]⟩,
        ⟨e_NoRow, by simp [clOf, List.lookup]⟩,
        ⟨e_NoState, by simp [clOf, List.lookup]⟩,
        ⟨e_NoStep, by simp [clOf, List.lookup]⟩,
        ⟨e_NoTable, by simp [clOf, List.lookup]⟩,
        ⟨e_NotSo, by simp [clOf, List.lookup]⟩,
        ⟨e_VaultError, by simp [clOf, List.lookup]⟩,
        ⟨_, PySem.W.mg_of X G y_FIGURES, x_FIGURES⟩,
        ⟨_, PySem.W.mg_of X G y_MOST, x_MOST⟩,
        ⟨_, PySem.W.mg_of X G y_MOST_FIGURES, x_MOST_FIGURES⟩,
        ⟨_, PySem.W.mg_of X G y_MOST_SIGNS, x_MOST_SIGNS⟩,
        ⟨_, PySem.W.mg_of X G y_QUOTE, x_QUOTE⟩,
        ⟨_, PySem.W.mg_of X G y_SIGNS, x_SIGNS⟩⟩
    | succ L IH => exact ⟨kn_mk (PySem.W.mg_of X G n182) F182 B182 (def_ok F182 sc_is_value lenF_is_value (b_isval TT) (fun cdv A outer s H E hr => d_is_value IH cdv A outer s H E hr)),
        kn_mk (PySem.W.mg_of X G n186) F186 B186 (def_ok F186 sc_words_in lenF_words_in (b_words TT) (fun cdv A outer s H E hr => d_words_in IH cdv A outer s H E hr)),
        kn_mk (PySem.W.mg_of X G n181) F181 B181 (def_ok F181 sc_number_of lenF_number_of (b_numof TT) (fun cdv A outer s H E hr => d_number_of IH cdv A outer s H E hr)),
        kn_mk (PySem.W.mg_of X G n189) F189 B189 (def_ok F189 sc_value_of lenF_value_of (b_valof TT rfl rfl) (fun cdv A outer s H E hr => d_value_of IH cdv A outer s H E hr)),
        kn_mk (PySem.W.mg_of X G n190) F190 B190 (def_ok F190 sc_law_hand lenF_law_hand (b_hand TT) (fun cdv A outer s H E hr => d_law_hand IH cdv A outer s H E hr)),
        kn_mk (PySem.W.mg_of X G n183) F183 B183 (def_ok F183 sc_law_draw lenF_law_draw (b_draw TT) (fun cdv A outer s H E hr => d_law_draw IH cdv A outer s H E hr)),
        kn_mk (PySem.W.mg_of X G n184) F184 B184 (def_ok F184 sc_law_text lenF_law_text (b_text TT rfl) (fun cdv A outer s H E hr => d_law_text IH cdv A outer s H E hr)),
        kn_mk (PySem.W.mg_of X G n191) F191 B191 (def_ok F191 sc_law_value lenF_law_value (b_value TT rfl rfl) (fun cdv A outer s H E hr => d_law_value IH cdv A outer s H E hr)),
        kn_mk (PySem.W.mg_of X G n187) F187 B187 (def_ok F187 sc_law_refused lenF_law_refused (b_refd TT) (fun cdv A outer s H E hr => d_law_refused IH cdv A outer s H E hr)),
        kn_mk (PySem.W.mg_of X G n185) F185 B185 (def_ok F185 sc_law_parted lenF_law_parted (b_parted TT) (fun cdv A outer s H E hr => d_law_parted IH cdv A outer s H E hr)),
        kn_mk (PySem.W.mg_of X G n188) F188 B188 (def_ok F188 sc_law_worth lenF_law_worth (b_worth TT) (fun cdv A outer s H E hr => d_law_worth IH cdv A outer s H E hr)),
        kn_mk (PySem.W.mg_of X G n192) F192 B192 (def_ok F192 sc_law_words_right lenF_law_words_right (b_wright TT rfl rfl rfl) (fun cdv A outer s H E hr => d_law_words_right IH cdv A outer s H E hr)),
        kn_mk (PySem.W.mg_of X G n193) F193 B193 (def_ok F193 sc_law_value_right lenF_law_value_right (b_vright TT rfl rfl rfl) (fun cdv A outer s H E hr => d_law_value_right IH cdv A outer s H E hr)),
        kn_mk (PySem.W.mg_of X G n194) F194 B194 (def_ok F194 sc_law_piece lenF_law_piece (b_piece TT rfl rfl) (fun cdv A outer s H E hr => d_law_piece IH cdv A outer s H E hr)),
        PySem.W.mg_none_of X G z_ValueError,
        PySem.W.mg_none_of X G z_bool,
        PySem.W.mg_none_of X G z_enumerate,
        PySem.W.mg_none_of X G z_int,
        PySem.W.mg_none_of X G z_isinstance,
        PySem.W.mg_none_of X G z_len,
        PySem.W.mg_none_of X G z_list,
        PySem.W.mg_none_of X G z_ord,
        PySem.W.mg_none_of X G z_range,
        PySem.W.mg_none_of X G z_str,
        PySem.W.mg_none_of X G z_sum,
        exK,
        ⟨e_BadThing, by simp [clOf, List.lookup]⟩,
        ⟨e_Clash, by simp [clOf, List.lookup]⟩,
        ⟨e_NoColumn, by simp [clOf, List.lookup]⟩,
        ⟨e_NoName, by simp [clOf, List.lookup]⟩,
        ⟨e_NoPaper, by simp [clOf, List.lookup]⟩,
        ⟨e_NoPlan, by simp [clOf, List.lookup]⟩,
        ⟨e_NoQuestion, by simp [clOf, List.lookup]⟩,
        ⟨e_NoRow, by simp [clOf, List.lookup]⟩,
        ⟨e_NoState, by simp [clOf, List.lookup]⟩,
        ⟨e_NoStep, by simp [clOf, List.lookup]⟩,
        ⟨e_NoTable, by simp [clOf, List.lookup]⟩,
        ⟨e_NotSo, by simp [clOf, List.lookup]⟩,
        ⟨e_VaultError, by simp [clOf, List.lookup]⟩,
        ⟨_, PySem.W.mg_of X G y_FIGURES, x_FIGURES⟩,
        ⟨_, PySem.W.mg_of X G y_MOST, x_MOST⟩,
        ⟨_, PySem.W.mg_of X G y_MOST_FIGURES, x_MOST_FIGURES⟩,
        ⟨_, PySem.W.mg_of X G y_MOST_SIGNS, x_MOST_SIGNS⟩,
        ⟨_, PySem.W.mg_of X G y_QUOTE, x_QUOTE⟩,
        ⟨_, PySem.W.mg_of X G y_SIGNS, x_SIGNS⟩⟩
  refine ⟨PySem.W.fnOf "law" "law" (defArgs st_law) (defBody st_law) (defScope st_law) .none kV384 dc384 pm384 an384 cd384 ct384, fun s v => .of_eq rfl, fun base _ _ => ?_⟩
  exact FnOk.imp (def_ok F384 sc_law lenF_law (b_law TT rfl rfl rfl rfl rfl rfl rfl) (fun cdv A outer s H E hr => d_law (W base _) cdv A outer s H E hr)) (raw_of (S := sp_law) (fun a ns => (a, ns)) (fun _ _ => by dsimp only [sp_law]; decide) (fun a ns m h => ⟨rfl, h⟩) (fun _ _ _ _ h => h) (fun _ _ _ _ h => h))
theorem walk {l : PySem.W.OpenLaw} {q : Program} {loose : List Str} {XP : (Str → Option Value) → Heap → Prop} {YP : World → Heap → Prop} {d : DefRec} {K : Params → PySem.W.Frag} (hn : l.most = some 63) (hdf : d.params.defaults = [])
    (hY : ∀ (w : World) (h : Heap), YP w h → (K w.params).In h)
    (F : ∀ (w : World) (mg : Str → Option Value) (fa : Addr) (h : Heap), (K w.params).In h → h.Ns mainGlobals mg → mg d.name = some (.ref fa) →
      ∃ fd : FuncData, (∀ (s : Shared) (u : Value), BindsTo s fd ⟨[u], []⟩ [("script", u)]) ∧ ∀ base : Heap, (K w.params).In base → base.Ns mainGlobals mg → FnOk l.prog w (K w.params) mg base (L2.CX l.prog w) 40 fa fd ["script"] (rawSp (K w.params))) :
    PySem.W.WalkO q loose XP YP l.row.toRowW d [] (fun f vs => PySem.call f vs) :=
  L2.walk_of (n := 63) (k := 40) (x := "script") (CX := fun w => L2.CX l.prog w) (sp := fun w => rawSp (K w.params)) hn (by decide) hdf ⟨rfl, by decide, by decide⟩ hY F
    (fun w H a ns hl hO hS => ⟨a, ns, rfl, hO, hS, fun v H' h => h⟩) fun w H s e s' z => by obtain ⟨_, _, _, _, _, _, _, _, _, _, _, _, z⟩ := z; exact z
end PV
open PySem PySem.W PyProof.Rows
set_option maxRecDepth 100000 in
set_option maxHeartbeats 0 in
theorem PySem.Challenge.cw_papervault_k65_words_and_values_holds : PySem.Challenge.rw_papervault_k65_words_and_values.Holds := by
  w_on; o_law; k_head; (case hw => w_witness2)
  k_fill
  refine PV.walk (l := PySem.Challenge.rw_papervault_k65_words_and_values) rfl rfl (fun w h Y => PySem.W.kIn_of Y) ?F
  case F =>
    intro w mg fa h KX G hmg
    refine' PV.all_mk KX G hmg ?n182 ?l182 ?c182 ?k182 ?n186 ?l186 ?c186 ?k186 ?n181 ?l181 ?c181 ?k181 ?n189 ?l189 ?c189 ?k189 ?n190 ?l190 ?c190 ?k190 ?n183 ?l183 ?c183 ?k183 ?n184 ?l184 ?c184 ?k184 ?n191 ?l191 ?c191 ?k191 ?n187 ?l187 ?c187 ?k187 ?n185 ?l185 ?c185 ?k185 ?n188 ?l188 ?c188 ?k188 ?n192 ?l192 ?c192 ?k192 ?n193 ?l193 ?c193 ?k193 ?n194 ?l194 ?c194 ?k194 ?n384 ?l384 ?c384 ?k384 ?z_ValueError ?z_bool ?z_enumerate ?z_int ?z_isinstance ?z_len ?z_list ?z_ord ?z_range ?z_str ?z_sum ?y_FIGURES ?x_FIGURES ?y_MOST ?x_MOST ?y_MOST_FIGURES ?x_MOST_FIGURES ?y_MOST_SIGNS ?x_MOST_SIGNS ?y_QUOTE ?x_QUOTE ?y_SIGNS ?x_SIGNS ?en_BadThing ?ef_BadThing ?eo_BadThing ?en_Clash ?ef_Clash ?en_NoColumn ?ef_NoColumn ?eo_NoColumn ?en_NoName ?ef_NoName ?eo_NoName ?en_NoPaper ?ef_NoPaper ?eo_NoPaper ?en_NoPlan ?ef_NoPlan ?eo_NoPlan ?en_NoQuestion ?ef_NoQuestion ?eo_NoQuestion ?en_NoRow ?ef_NoRow ?eo_NoRow ?en_NoState ?ef_NoState ?eo_NoState ?en_NoStep ?ef_NoStep ?eo_NoStep ?en_NoTable ?ef_NoTable ?eo_NoTable ?en_NotSo ?ef_NotSo ?eo_NotSo ?en_VaultError ?ef_VaultError ?eo_VaultError ?es_BadThing ?es_Clash ?es_NoColumn ?es_NoName ?es_NoPaper ?es_NoPlan ?es_NoQuestion ?es_NoRow ?es_NoState ?es_NoStep ?es_NoTable ?es_NotSo ?es_VaultError
    (case en_BadThing => k_is)
    (case en_Clash => k_is)
    (case en_NoColumn => k_is)
    (case en_NoName => k_is)
    (case en_NoPaper => k_is)
    (case en_NoPlan => k_is)
    (case en_NoQuestion => k_is)
    (case en_NoRow => k_is)
    (case en_NoState => k_is)
    (case en_NoStep => k_is)
    (case en_NoTable => k_is)
    (case en_NotSo => k_is)
    (case en_VaultError => k_is)
    (case n182 => k_is)
    (case l182 => k_is)
    (case c182 => k_is)
    (case k182 => k_is)
    (case n186 => k_is)
    (case l186 => k_is)
    (case c186 => k_is)
    (case k186 => k_is)
    (case n181 => k_is)
    (case l181 => k_is)
    (case c181 => k_is)
    (case k181 => k_is)
    (case n189 => k_is)
    (case l189 => k_is)
    (case c189 => k_is)
    (case k189 => k_is)
    (case n190 => k_is)
    (case l190 => k_is)
    (case c190 => k_is)
    (case k190 => k_is)
    (case n183 => k_is)
    (case l183 => k_is)
    (case c183 => k_is)
    (case k183 => k_is)
    (case n184 => k_is)
    (case l184 => k_is)
    (case c184 => k_is)
    (case k184 => k_is)
    (case n191 => k_is)
    (case l191 => k_is)
    (case c191 => k_is)
    (case k191 => k_is)
    (case n187 => k_is)
    (case l187 => k_is)
    (case c187 => k_is)
    (case k187 => k_is)
    (case n185 => k_is)
    (case l185 => k_is)
    (case c185 => k_is)
    (case k185 => k_is)
    (case n188 => k_is)
    (case l188 => k_is)
    (case c188 => k_is)
    (case k188 => k_is)
    (case n192 => k_is)
    (case l192 => k_is)
    (case c192 => k_is)
    (case k192 => k_is)
    (case n193 => k_is)
    (case l193 => k_is)
    (case c193 => k_is)
    (case k193 => k_is)
    (case n194 => k_is)
    (case l194 => k_is)
    (case c194 => k_is)
    (case k194 => k_is)
    (case n384 => k_is)
    (case l384 => k_is)
    (case c384 => k_is)
    (case k384 => k_is)
    (case z_ValueError => k_is)
    (case z_bool => k_is)
    (case z_enumerate => k_is)
    (case z_int => k_is)
    (case z_isinstance => k_is)
    (case z_len => k_is)
    (case z_list => k_is)
    (case z_ord => k_is)
    (case z_range => k_is)
    (case z_str => k_is)
    (case z_sum => k_is)
    (case y_FIGURES => k_is)
    (case x_FIGURES => first | rfl | exact ⟨_, rfl⟩)
    (case y_MOST => k_is)
    (case x_MOST => first | rfl | exact ⟨_, rfl⟩)
    (case y_MOST_FIGURES => k_is)
    (case x_MOST_FIGURES => first | rfl | exact ⟨_, rfl⟩)
    (case y_MOST_SIGNS => k_is)
    (case x_MOST_SIGNS => first | rfl | exact ⟨_, rfl⟩)
    (case y_QUOTE => k_is)
    (case x_QUOTE => first | rfl | exact ⟨_, rfl⟩)
    (case y_SIGNS => k_is)
    (case x_SIGNS => first | rfl | exact ⟨_, rfl⟩)
    (case ef_BadThing => exact ⟨by k_is, by k_is, by k_is, by k_is, by k_is, by k_is, by k_is, by k_is, by k_is, by k_is, by k_is, by k_is, by k_is⟩)
    (case eo_BadThing => k_exc)
    (case ef_Clash => exact ⟨by k_is, by k_is, by k_is, by k_is, by k_is, by k_is, by k_is, by k_is, by k_is, by k_is, by k_is, by k_is, by k_is⟩)
    (case ef_NoColumn => exact ⟨by k_is, by k_is, by k_is, by k_is, by k_is, by k_is, by k_is, by k_is, by k_is, by k_is, by k_is, by k_is, by k_is⟩)
    (case eo_NoColumn => k_exc)
    (case ef_NoName => exact ⟨by k_is, by k_is, by k_is, by k_is, by k_is, by k_is, by k_is, by k_is, by k_is, by k_is, by k_is, by k_is, by k_is⟩)
    (case eo_NoName => k_exc)
    (case ef_NoPaper => exact ⟨by k_is, by k_is, by k_is, by k_is, by k_is, by k_is, by k_is, by k_is, by k_is, by k_is, by k_is, by k_is, by k_is⟩)
    (case eo_NoPaper => k_exc)
    (case ef_NoPlan => exact ⟨by k_is, by k_is, by k_is, by k_is, by k_is, by k_is, by k_is, by k_is, by k_is, by k_is, by k_is, by k_is, by k_is⟩)
    (case eo_NoPlan => k_exc)
    (case ef_NoQuestion => exact ⟨by k_is, by k_is, by k_is, by k_is, by k_is, by k_is, by k_is, by k_is, by k_is, by k_is, by k_is, by k_is, by k_is⟩)
    (case eo_NoQuestion => k_exc)
    (case ef_NoRow => exact ⟨by k_is, by k_is, by k_is, by k_is, by k_is, by k_is, by k_is, by k_is, by k_is, by k_is, by k_is, by k_is, by k_is⟩)
    (case eo_NoRow => k_exc)
    (case ef_NoState => exact ⟨by k_is, by k_is, by k_is, by k_is, by k_is, by k_is, by k_is, by k_is, by k_is, by k_is, by k_is, by k_is, by k_is⟩)
    (case eo_NoState => k_exc)
    (case ef_NoStep => exact ⟨by k_is, by k_is, by k_is, by k_is, by k_is, by k_is, by k_is, by k_is, by k_is, by k_is, by k_is, by k_is, by k_is⟩)
    (case eo_NoStep => k_exc)
    (case ef_NoTable => exact ⟨by k_is, by k_is, by k_is, by k_is, by k_is, by k_is, by k_is, by k_is, by k_is, by k_is, by k_is, by k_is, by k_is⟩)
    (case eo_NoTable => k_exc)
    (case ef_NotSo => exact ⟨by k_is, by k_is, by k_is, by k_is, by k_is, by k_is, by k_is, by k_is, by k_is, by k_is, by k_is, by k_is, by k_is⟩)
    (case eo_NotSo => k_exc)
    (case ef_VaultError => exact ⟨by k_is, by k_is, by k_is, by k_is, by k_is, by k_is, by k_is, by k_is, by k_is, by k_is, by k_is, by k_is, by k_is⟩)
    (case eo_VaultError => k_exc)
    (case es_BadThing => exact ⟨by k_is, by k_is, by k_is, by k_is, by k_is, by k_is, by k_is, by k_is, by k_is, by k_is, by k_is, by k_is, by k_is⟩)
    (case es_Clash => exact ⟨by k_is, by k_is, by k_is, by k_is, by k_is, by k_is, by k_is, by k_is, by k_is, by k_is, by k_is, by k_is, by k_is⟩)
    (case es_NoColumn => exact ⟨by k_is, by k_is, by k_is, by k_is, by k_is, by k_is, by k_is, by k_is, by k_is, by k_is, by k_is, by k_is, by k_is⟩)
    (case es_NoName => exact ⟨by k_is, by k_is, by k_is, by k_is, by k_is, by k_is, by k_is, by k_is, by k_is, by k_is, by k_is, by k_is, by k_is⟩)
    (case es_NoPaper => exact ⟨by k_is, by k_is, by k_is, by k_is, by k_is, by k_is, by k_is, by k_is, by k_is, by k_is, by k_is, by k_is, by k_is⟩)
    (case es_NoPlan => exact ⟨by k_is, by k_is, by k_is, by k_is, by k_is, by k_is, by k_is, by k_is, by k_is, by k_is, by k_is, by k_is, by k_is⟩)
    (case es_NoQuestion => exact ⟨by k_is, by k_is, by k_is, by k_is, by k_is, by k_is, by k_is, by k_is, by k_is, by k_is, by k_is, by k_is, by k_is⟩)
    (case es_NoRow => exact ⟨by k_is, by k_is, by k_is, by k_is, by k_is, by k_is, by k_is, by k_is, by k_is, by k_is, by k_is, by k_is, by k_is⟩)
    (case es_NoState => exact ⟨by k_is, by k_is, by k_is, by k_is, by k_is, by k_is, by k_is, by k_is, by k_is, by k_is, by k_is, by k_is, by k_is⟩)
    (case es_NoStep => exact ⟨by k_is, by k_is, by k_is, by k_is, by k_is, by k_is, by k_is, by k_is, by k_is, by k_is, by k_is, by k_is, by k_is⟩)
    (case es_NoTable => exact ⟨by k_is, by k_is, by k_is, by k_is, by k_is, by k_is, by k_is, by k_is, by k_is, by k_is, by k_is, by k_is, by k_is⟩)
    (case es_NotSo => exact ⟨by k_is, by k_is, by k_is, by k_is, by k_is, by k_is, by k_is, by k_is, by k_is, by k_is, by k_is, by k_is, by k_is⟩)
    (case es_VaultError => exact ⟨by k_is, by k_is, by k_is, by k_is, by k_is, by k_is, by k_is, by k_is, by k_is, by k_is, by k_is, by k_is, by k_is⟩)
