import PyProof.Rows.All
import Wide.All
import OpenK.AllK
import Wide.FinOn
import HandS.ForMost
import HandS.Dict
import KE.KDictKeyed
import KE.KeyNested
import HandS.ForExc
import KE.DatumOrd
import HandS.Small
import HandS.Wide
import HandS.WideBits
import HandS.TupAny
import HandS.TupMul
import HandS.Style
import KE.DataEq
import PyProof.StrOps2
import HandS.IsInst
import HandS.Conv
import HandS.ExcOwn
import HandS.WordsExc
import HandS.Zip
import HandS.Rev
import HandS.NoneIn
import HandS.ExcField
import HandS.ExcInit
import HandS.ClsMeth
import HandS.TryMany
import HandS.SortInts
import HandS.Text
import HandS.Codes
import KE.KExcIs
import KE.KTryMore
import KE.IntTextText
import HandS.StrMore
import PyProof.StrLawsFrom
import HandS.More
import KE.GoesRaise
import KE.GoesMore
import HandS.RaiseMore
import PyProof.ConsumeWalk
import HandS.ReplaceLit
import HandS.ReplaceList
import HandS.FStr
import PyProof.ToksMono
import PySem.Challenge.RW_papervault_k91_records_read
set_option Elab.async false
set_option linter.all false
set_option maxRecDepth 100000
set_option maxHeartbeats 4000000
/-! Dicts whose keys are things of any kind: what stands in the heap, looked up, put, taken out. -/
namespace PV
open PySem L2 PyProof.Rows
/-- a value that is this key -/
def KyIs (h : Heap) (k : NestedKey) (v : Value) : Prop := NestedIs h k v ∧ k.depth ≤ 8
/-- the keys by their entries -/
def KysAt (w : World) (h : Heap) (ks : List NestedKey) (es : List DictEntry) : Prop := Paired (fun k e => e.hash = k.hash w ∧ KyIs h k e.key) ks es
theorem paired_at {α β : Type} {F : α → β → Prop} : ∀ {l : List α} {m : List β} {i : Nat} {y : β}, Paired F l m → m[i]? = some y → ∃ x, l[i]? = some x ∧ F x y
  | _, _, _, _, .nil, h => by simp at h
  | _, _, 0, _, .cons r _, h => by simp at h; subst h; exact ⟨_, rfl, r⟩
  | _, _, i + 1, _, .cons _ t, h => by simpa using paired_at t (by simpa using h)
theorem paired_at' {α β : Type} {F : α → β → Prop} : ∀ {l : List α} {m : List β} {i : Nat} {x : α}, Paired F l m → l[i]? = some x → ∃ y, m[i]? = some y ∧ F x y
  | _, _, _, _, .nil, h => by simp at h
  | _, _, 0, _, .cons r _, h => by simp at h; subst h; exact ⟨_, rfl, r⟩
  | _, _, i + 1, _, .cons _ t, h => by simpa using paired_at' t (by simpa using h)
theorem paired_len {α β : Type} {F : α → β → Prop} : ∀ {l : List α} {m : List β}, Paired F l m → l.length = m.length
  | _, _, .nil => rfl
  | _, _, .cons _ t => by simp [paired_len t]
/-- the places that are looked at -/
abbrev plcs (w : World) (es : Array DictEntry) (k : NestedKey) : List Nat := placesWithHash es.size (fun i => es[i]?.map (·.hash)) (k.hash w)
theorem plcs_mem {w : World} {es : Array DictEntry} {k : NestedKey} {i : Nat} : i ∈ plcs w es k ↔ ∃ e, es[i]? = some e ∧ e.hash = k.hash w := by
  unfold plcs placesWithHash
  rw [List.mem_filter, List.mem_range]
  constructor
  · rintro ⟨h1, h2⟩
    refine ⟨es[i], Array.getElem?_eq_getElem h1, ?_⟩
    dsimp only at h2
    rw [Array.getElem?_eq_getElem h1] at h2
    simpa using h2
  · rintro ⟨e, h1, h2⟩
    refine ⟨(Array.getElem?_eq_some_iff.mp h1).1, ?_⟩
    dsimp only
    rw [h1]
    simp [h2]
theorem plcs_nodup {w : World} {es : Array DictEntry} {k : NestedKey} : (plcs w es k).Nodup := by
  unfold plcs placesWithHash
  exact List.Pairwise.filter _ List.nodup_range
section
variable {prog : Program} {w : World} {A : Around} {E : Value → Shared → Prop} {s : Shared} {d : Addr} {o : Obj} {es : Array DictEntry} {ep : Nat} {k : NestedKey} {u : Value} {ks : List NestedKey}
theorem ky_eq {x y : NestedKey} {a b : Value} {Q : Bool → Shared → Prop} (hu : A.units + 8 < cLine) (hx : KyIs s.heap x a) (hy : KyIs s.heap y b) (h : Q (decide (x = y)) s) : wpAny (model prog w) A (eqBool a b) Q E s := by
  have : min x.depth y.depth ≤ x.depth := Nat.min_le_left _ _
  have hd := hx.2
  exact eqAt_key x y A s a b hx.1 hy.1 (by omega) prog w E Q (by rw [← NestedKey.decide_eq]; exact h)
theorem ky_quiet {x : NestedKey} {a : Value} {Q : Bool → Shared → Prop} (hx : KyIs s.heap x a) (h : Q true s) : wpAny (model prog w) A (eqIsQuiet 8 a) Q E s := quiet_key x a 8 s hx.1 hx.2 A E Q h
theorem ky_tells {st : List Value} {Q : Bool → Shared → Prop} (hk : KyIs s.heap k u) (hst : ∀ v ∈ st, ∃ k', KyIs s.heap k' v) (h : Q false s) : wpAny (model prog w) A (tableMayTell u st) Q E s := by
  unfold tableMayTell
  split
  · exact wpAny_pure h
  · refine wpAny_bind (ky_quiet hk (wpAny_bind ?_))
    refine wpAny_forIn_list _ (fun rest r s' => s' = s ∧ r = (none, ()) ∧ ∀ v ∈ rest, ∃ k', KyIs s.heap k' v) _ ?_ ?_ _ _ ⟨rfl, rfl, hst⟩
    · rintro v rest r _ ⟨rfl, rfl, q⟩
      obtain ⟨k', hv⟩ := q v (List.mem_cons_self ..)
      exact wpAny_bind (ky_quiet hv (wpAny_pure ⟨rfl, rfl, fun z hz => q z (List.mem_cons_of_mem _ hz)⟩))
    · rintro r _ ⟨rfl, rfl, _⟩
      exact wpAny_pure h
/-- where the key stands, among the places gone through -/
def Seen (ks : List NestedKey) (k : NestedKey) (pre : List Nat) (hit : Option Nat) : Prop := (hit = none ∧ ∀ i ∈ pre, ks[i]? ≠ some k) ∨ ∃ j, hit = some j ∧ j ∈ pre ∧ ks[j]? = some k
theorem ks_uniq (hn : ks.Nodup) {i j : Nat} (hi : ks[i]? = some k) (hj : ks[j]? = some k) : i = j := (List.getElem?_inj (List.getElem?_eq_some_iff.mp hi).1 hn).mp (hi.trans hj.symm)
theorem no_key {Q : Prop} (hp : KysAt w s.heap ks es.toList) (hno : ∀ i ∈ plcs w es k, ks[i]? ≠ some k) : k ∉ ks := fun hm => by
  obtain ⟨i, hi, e⟩ := List.mem_iff_getElem.mp hm
  have hi' : ks[i]? = some k := by rw [List.getElem?_eq_getElem hi, e]
  obtain ⟨en, he, h1, _⟩ := paired_at' hp hi'
  exact hno i (plcs_mem.mpr ⟨en, by rw [← Array.getElem?_toList]; exact he, h1⟩) hi'
theorem ky_shape {h : Heap} (hk : KyIs h k u) : (∃ x t, u = .str x t) ∨ (∃ a, u = .ref a) ∨ u = .none ∨ (∃ b, u = .bool b) ∨ ∃ i t, u = .int i t := by
  have hk1 := hk.1
  cases hk1 with
  | none => exact .inr (.inr (.inl rfl))
  | bool _ => exact .inr (.inr (.inr (.inl ⟨_, rfl⟩)))
  | int i t => exact .inr (.inr (.inr (.inr ⟨i, t, rfl⟩)))
  | text x t => exact .inl ⟨x, t, rfl⟩
  | tup _ _ _ _ => exact .inr (.inl ⟨_, rfl⟩)
theorem ky_find {Q : Option Nat → Shared → Prop} (hu : A.units + 8 < cLine) (hk : KyIs s.heap k u) (ho : s.heap.get? d = some o) (hd : o.data = .dict es ep) (hp : KysAt w s.heap ks es.toList) (hn : ks.Nodup)
    (hnone : k ∉ ks → Q none s) (hsome : ∀ j, ks[j]? = some k → Q (some j) s) : wpAny (model prog w) A (dictFind d u (k.hash w)) Q E s := by
  have at_ : ∀ {i : Nat} {e : DictEntry}, es[i]? = some e → ∃ k', ks[i]? = some k' ∧ e.hash = k'.hash w ∧ KyIs s.heap k' e.key := fun h => paired_at hp (by rw [Array.getElem?_toList]; exact h)
  have hst : ∀ v ∈ (plcs w es k).filterMap (fun i => es[i]?.map (·.key)), ∃ k', KyIs s.heap k' v := fun v hv => by
    obtain ⟨i, _, hi⟩ := List.mem_filterMap.mp hv
    cases he : es[i]? with
    | none => rw [he] at hi; cases hi
    | some e =>
      rw [he] at hi
      obtain rfl : e.key = v := by simpa using hi
      obtain ⟨k', _, _, h3⟩ := at_ he
      exact ⟨k', h3⟩
  have plain : wpAny (model prog w) A (dictWalkPlain d u (k.hash w) es (plcs w es k)) Q E s := by
    unfold dictWalkPlain
    refine wpAny_bind ?_
    refine wpAny_forIn_list _ (fun rest b s' => s' = s ∧ b = (none, ()) ∧ ∃ pre, plcs w es k = pre ++ rest ∧ ∀ i ∈ pre, ks[i]? ≠ some k) _ ?_ ?_ _ _ ⟨rfl, rfl, [], rfl, fun _ h => nomatch h⟩
    · rintro i rest b _ ⟨rfl, rfl, pre, hpre, hno⟩
      obtain ⟨e, he, hh⟩ := plcs_mem.mp (show i ∈ plcs w es k by rw [hpre]; simp)
      obtain ⟨k', hk', _, hke⟩ := at_ he
      rw [he]
      dsimp only
      rw [if_pos (by rw [hh]; exact beq_self_eq_true _)]
      refine wpAny_bind (wpAny_dictEpoch ho hd (wpAny_bind (ky_eq hu hke hk (wpAny_bind (wpAny_dictEpoch ho hd ?_)))))
      rw [if_neg (by simp)]
      by_cases e1 : k' = k
      · subst e1
        rw [decide_eq_true rfl]
        exact wpAny_bind (wpAny_rule (wpAny_pure (wpAny_pure (hsome i hk'))))
      · rw [decide_eq_false e1]
        refine wpAny_bind (wpAny_rule (wpAny_pure ⟨rfl, rfl, pre ++ [i], by rw [hpre]; simp, fun j hj => ?_⟩))
        rcases List.mem_append.mp hj with hj | hj
        · exact hno j hj
        · rw [List.mem_singleton.mp hj, hk']
          exact fun z => e1 (Option.some.inj z)
    · rintro b _ ⟨rfl, rfl, pre, hpre, hno⟩
      rw [List.append_nil] at hpre
      exact wpAny_pure (hnone (no_key (Q := True) hp (by rw [hpre]; exact hno)))
  unfold dictFind
  refine wpAny_holding (wpAny_bind (wpAny_dictEntries ho hd ?_))
  rcases ky_shape hk with ⟨x, t, rfl⟩ | ⟨a, rfl⟩ | rfl | ⟨b, rfl⟩ | ⟨i, t, rfl⟩
  case' inl =>
    dsimp only
    by_cases hs : (es.all fun e => isExactStrKey e.key) = true
    · rw [if_pos hs]
      have ek : k = .text x := NestedIs.inj _ _ _ hk.1 (.text x t)
      unfold foundByValue
      cases hf : es.findIdx? (fun e => e.key.isStr x) with
      | none =>
        dsimp only
        refine wpAny_bind (wpAny_pure (wpAny_pure (hnone fun hm => ?_)))
        obtain ⟨j, hj, e⟩ := List.mem_iff_getElem.mp hm
        obtain ⟨en, he, _, h3⟩ := paired_at' hp (show ks[j]? = some k by rw [List.getElem?_eq_getElem hj, e])
        have h4 := h3.1
        rw [ek] at h4
        have hno := Array.findIdx?_eq_none_iff.mp hf en (Array.mem_of_getElem? (by rw [← Array.getElem?_toList]; exact he))
        generalize en.key = v at h4 hno
        cases h4
        simp [Value.isStr] at hno
      | some i =>
        dsimp only
        obtain ⟨hlt, hi, _⟩ := Array.findIdx?_eq_some_iff_getElem.mp hf
        have he := Array.getElem?_eq_getElem hlt
        obtain ⟨k', hk', _, hke⟩ := at_ he
        rw [he]
        dsimp only
        have e1 : k' = k := by
          have h4 := hke.1
          generalize es[i].key = v at h4 hi
          cases h4 with
          | text y t' =>
            rw [ek]
            simp [Value.isStr] at hi
            rw [hi]
          | _ => simp [Value.isStr] at hi
        refine wpAny_bind (wpAny_dictEpoch ho hd (wpAny_bind (ky_eq hu hke hk (wpAny_bind (wpAny_dictEpoch ho hd ?_)))))
        rw [if_neg (by simp), decide_eq_true e1]
        exact wpAny_bind (wpAny_rule (wpAny_pure (hsome i (e1 ▸ hk'))))
    rw [if_neg hs]
  all_goals (try dsimp only)
  all_goals (refine wpAny_ite_split (fun _ => plain) (fun _ => ?_))
  case' inr.inl =>
    rw [if_neg (by
      rw [← Array.any_toList, List.any_eq_true]
      rintro ⟨e, hin, hc⟩
      rw [Bool.and_eq_true, beq_iff_eq, bne_iff_ne] at hc
      obtain ⟨j, hj⟩ := List.mem_iff_getElem?.mp hin
      obtain ⟨k', _, h2, h3⟩ := paired_at hp hj
      rw [hc.1] at h3
      exact hc.2 (by rw [h2, NestedIs.inj _ _ _ h3.1 hk.1]))]
  all_goals
    refine wpAny_ite_split (fun _ => wpAny_bind (wpAny_pure ?_)) (fun _ => wpAny_bind (ky_tells hk hst ?_))
  all_goals
    rw [if_neg (by simp)]
    refine wpAny_bind ?_
    refine wpAny_forIn_list _ (fun rest b s' => s' = s ∧ ∃ hit pre, b = (none, hit) ∧ plcs w es k = pre ++ rest ∧ Seen ks k pre hit) _ ?_ ?_ _ _ ⟨rfl, none, [], rfl, rfl, .inl ⟨rfl, fun _ h => nomatch h⟩⟩
    · rintro i rest b _ ⟨rfl, hit, pre, rfl, hpre, hseen⟩
      obtain ⟨e, he, hh⟩ := plcs_mem.mp (show i ∈ plcs w es k by rw [hpre]; simp)
      obtain ⟨k', hk', _, hke⟩ := at_ he
      rw [he]
      dsimp only
      rw [if_pos (by rw [hh]; exact beq_self_eq_true _)]
      refine wpAny_bind (wpAny_dictEpoch ho hd (wpAny_bind (ky_eq hu hke hk (wpAny_bind (wpAny_dictEpoch ho hd ?_)))))
      rw [if_neg (by simp)]
      by_cases e1 : k' = k
      · subst e1
        rw [decide_eq_true rfl]
        rcases hseen with ⟨rfl, hno⟩ | ⟨j, rfl, hj, hj2⟩
        · refine wpAny_bind (wpAny_rule ?_)
          refine wpAny_ite_split (fun _ => wpAny_pure (wpAny_pure (hsome i hk'))) (fun _ => wpAny_pure ⟨rfl, some i, pre ++ [i], rfl, by rw [hpre]; simp, .inr ⟨i, rfl, by simp, hk'⟩⟩)
        · exfalso
          have := ks_uniq hn hj2 hk'
          subst this
          have hnd := plcs_nodup (w := w) (es := es) (k := k')
          rw [hpre, List.nodup_append] at hnd
          exact hnd.2.2 j hj j (by simp) rfl
      · rw [decide_eq_false e1]
        have hs2 : Seen ks k (pre ++ [i]) hit := by
          rcases hseen with ⟨rfl, hno⟩ | ⟨j, rfl, hj, hj2⟩
          · refine .inl ⟨rfl, fun j hj => ?_⟩
            rcases List.mem_append.mp hj with hj | hj
            · exact hno j hj
            · rw [List.mem_singleton.mp hj, hk']
              exact fun z => e1 (Option.some.inj z)
          · exact .inr ⟨j, rfl, List.mem_append_left _ hj, hj2⟩
        refine wpAny_bind (wpAny_rule ?_)
        first
          | exact wpAny_pure ⟨rfl, hit, pre ++ [i], rfl, by rw [hpre]; simp, hs2⟩
          | (rw [if_neg (by simp)]; exact wpAny_pure ⟨rfl, hit, pre ++ [i], rfl, by rw [hpre]; simp, hs2⟩)
    · rintro b _ ⟨rfl, hit, pre, rfl, hpre, hseen⟩
      rw [List.append_nil] at hpre
      rcases hseen with ⟨rfl, hno⟩ | ⟨j, rfl, hj, hj2⟩
      · exact wpAny_pure (hnone (no_key (Q := True) hp (by rw [hpre]; exact hno)))
      · exact wpAny_pure (hsome j hj2)
end
/-! ### what stands in such a dict -/
abbrev XEn := NestedKey × V × V
def EnR (w : World) (x : XEn) (e : DictEntry) : Prop := e.hash = x.1.hash w ∧ RelV x.2.1 e.key ∧ RelV x.2.2 e.val
def DxAt (w : World) (a : Addr) (xs : List XEn) (h : Heap) : Prop := xs.length ≤ sizeLine ∧ (a == sysModules) = false ∧ ∃ o es ep, h.get? a = some o ∧ o.ExactDict ∧ o.data = .dict es ep ∧ Paired (EnR w) xs es.toList
/-- the thing that is tracked -/
def dxH (w : World) (a : Addr) (xs : List XEn) : HO := .ext (DxAt w a xs)
theorem dx_ok {P : Program} {w w' : World} {H : Hp} {h : Heap} {a : Addr} {xs : List XEn} : ObjOk P w' H h a (dxH w a xs) ↔ DxAt w a xs h := by
  constructor
  · exact fun z => z.1
  · intro z
    refine ⟨z, ?_, ?_⟩
    · obtain ⟨_, _, o, _, _, ho, _⟩ := z
      exact ⟨o, ho⟩
    · rintro h1 h2 ⟨z1, z2, o, es, ep, ho, hr⟩ hk
      exact ⟨z1, z2, o, es, ep, hk _ ho, hr⟩
def valX (xs : List XEn) (k : NestedKey) : Option V := (xs.find? fun x => decide (x.1 = k)).map (·.2.2)
theorem valX_at : ∀ {xs : List XEn} {k : NestedKey} {j : Nat} {x : XEn}, (xs.map (·.1)).Nodup → xs[j]? = some x → x.1 = k → valX xs k = some x.2.2
  | [], _, _, _, _, h, _ => by simp at h
  | y :: ys, k, 0, x, _, h, e => by
    simp at h; subst h
    simp [valX, List.find?_cons, e]
  | y :: ys, k, j + 1, x, hn, h, e => by
    rw [List.map_cons, List.nodup_cons] at hn
    have h' : ys[j]? = some x := by simpa using h
    have ne : ¬ y.1 = k := fun z => hn.1 (by rw [z, ← e]; exact List.mem_map_of_mem (List.mem_of_getElem? h'))
    have := valX_at hn.2 h' e
    simpa [valX, List.find?_cons, ne] using this
theorem valX_no {xs : List XEn} {k : NestedKey} (h : k ∉ xs.map (·.1)) : valX xs k = none := by
  unfold valX
  rw [List.find?_eq_none.mpr fun x hx hk => h (by rw [← of_decide_eq_true hk]; exact List.mem_map_of_mem hx)]
  rfl
open Classical in
def putX (xs : List XEn) (k : NestedKey) (x y : V) : List XEn := if k ∈ xs.map (·.1) then xs.map fun e => if e.1 = k then (e.1, e.2.1, y) else e else xs ++ [(k, x, y)]
theorem paired_snoc {α β : Type} {F : α → β → Prop} {a : α} {b : β} (q : F a b) : ∀ {l : List α} {m : List β}, Paired F l m → Paired F (l ++ [a]) (m ++ [b])
  | _, _, .nil => .cons q .nil
  | _, _, .cons r t => .cons r (paired_snoc q t)
theorem paired_mod {w : World} {k : NestedKey} {y : V} {u : Value} (ry : RelV y u) : ∀ {xs : List XEn} {es : List DictEntry} {j : Nat}, (xs.map (·.1)).Nodup → (xs.map (·.1))[j]? = some k → Paired (EnR w) xs es →
    Paired (EnR w) (xs.map fun e => if e.1 = k then (e.1, e.2.1, y) else e) (es.modify j fun e => { e with val := u })
  | _, _, _, _, h, .nil => by simp at h
  | x :: xs, e :: es, 0, hn, h, .cons r t => by
    simp at h
    rw [List.map_cons, List.nodup_cons] at hn
    have e0 : (xs.map fun e => if e.1 = k then (e.1, e.2.1, y) else e) = xs := by
      conv => rhs; rw [← List.map_id xs]
      refine List.map_congr_left fun z hz => if_neg fun q => hn.1 ?_
      rw [h, ← q]
      exact List.mem_map_of_mem hz
    rw [List.map_cons, e0, if_pos h]
    exact .cons ⟨r.1, r.2.1, ry⟩ t
  | x :: xs, e :: es, j + 1, hn, h, .cons r t => by
    rw [List.map_cons, List.nodup_cons] at hn
    have h' : (xs.map (·.1))[j]? = some k := by simpa using h
    have ne : ¬ x.1 = k := fun q => hn.1 (by rw [q]; exact List.mem_of_getElem? h')
    rw [List.map_cons, if_neg ne]
    exact .cons r (paired_mod ry hn.2 h' t)
section
variable {prog : Program} {w : World} {A : Around} {E : Value → Shared → Prop} {s : Shared} {d : Addr} {k : NestedKey} {u : Value} {xs : List XEn}
theorem dx_kys {es : List DictEntry} (hp : Paired (EnR w) xs es) (hK : ∀ x ∈ xs, ∀ v, RelV x.2.1 v → KyIs s.heap x.1 v) : KysAt w s.heap (xs.map (·.1)) es := by
  unfold KysAt
  induction hp with
  | nil => exact .nil
  | cons r t ih => exact .cons ⟨r.1, hK _ (List.mem_cons_self ..) _ r.2.1⟩ (ih fun x hx => hK x (List.mem_cons_of_mem _ hx))
theorem ky_hash {Q : Int → Shared → Prop} (hu : A.units + 8 < cLine) (hk : KyIs s.heap k u) (h : Q (k.hash w) { s with toks := s.toks + k.draws }) : wpAny (model prog w) A (pyHash u) Q E s :=
  pyHash_key k u A s Q hk.1 (by have := hk.2; omega) h
theorem dx_get {Q : Option Value → Shared → Prop} (hu : A.units + 8 < cLine) (hk : KyIs s.heap k u) (hm : DxAt w d xs s.heap) (hK : ∀ x ∈ xs, ∀ v, RelV x.2.1 v → KyIs s.heap x.1 v) (hn : (xs.map (·.1)).Nodup)
    (h : ∀ r, RelO (valX xs k) r → Q r { s with toks := s.toks + k.draws }) : wpAny (model prog w) A (dictGet d u) Q E s := by
  obtain ⟨_, _, o, es, ep, ho, _, hd, hp⟩ := hm
  unfold dictGet
  refine wpAny_holding (wpAny_bind (ky_hash hu hk (wpAny_bind ?_)))
  refine ky_find (s := { s with toks := s.toks + k.draws }) hu hk ho hd (dx_kys (s := s) hp hK) hn (fun hno => ?_) (fun j hj => ?_)
  · exact wpAny_pure (h none (by rw [valX_no hno]; exact True.intro))
  · rw [List.getElem?_map] at hj
    obtain ⟨x, hx, e⟩ := Option.map_eq_some_iff.mp hj
    obtain ⟨en, he, r⟩ := paired_at' hp hx
    refine wpAny_bind (wpAny_dictEntries (s := { s with toks := s.toks + k.draws }) ho hd (wpAny_pure (h _ ?_)))
    rw [valX_at hn hx e]
    rw [Array.getElem?_toList] at he
    rw [he]
    exact r.2.2
theorem dx_set {x y : V} {z : Value} {Q : Unit → Shared → Prop} (hu : A.units + 8 < cLine) (hk : KyIs s.heap k u) (hm : DxAt w d xs s.heap) (hK : ∀ x ∈ xs, ∀ v, RelV x.2.1 v → KyIs s.heap x.1 v) (hn : (xs.map (·.1)).Nodup) (hl : xs.length < sizeLine)
    (rx : RelV x u) (ry : RelV y z) (h : ∀ h', DxAt w d (putX xs k x y) h' → Heap.SameBut d s.heap h' → Q () { s with heap := h', toks := s.toks + k.draws }) : wpAny (model prog w) A (dictSet d u z) Q E s := by
  obtain ⟨h1, h2, o, es, ep, ho, hc, hd, hp⟩ := hm
  have hsz : es.size = xs.length := by rw [← Array.length_toList]; exact (paired_len hp).symm
  unfold dictSet
  refine wpAny_holding (wpAny_bind (ky_hash hu hk ?_))
  unfold dictSetHashed
  refine wpAny_holding (wpAny_bind ?_)
  refine ky_find (s := { s with toks := s.toks + k.draws }) hu hk ho hd (dx_kys (s := s) hp hK) hn (fun hno => ?_) (fun j hj => ?_)
  · refine wpAny_bind (wpAny_rule (wpAny_updateDictKeys (hz := by omega) (s := { s with toks := s.toks + k.draws }) ho hd (h _ ?_ (Heap.SameBut.update ..))))
    unfold putX
    rw [if_neg hno]
    refine ⟨by rw [List.length_append]; exact hl, h2, _, _, _, Heap.get?_update_self _ ho (Obj.isFreed_of_dict (Obj.data_mapDictKeys hd _)), hc.mapDictKeys _, Obj.data_mapDictKeys hd _, ?_⟩
    rw [Array.toList_push]
    exact paired_snoc ⟨rfl, rx, ry⟩ hp
  · refine wpAny_bind (wpAny_rule (wpAny_bind (wpAny_updateDict (s := { s with toks := s.toks + k.draws }) ho hd (wpAny_point (h _ ?_ (Heap.SameBut.update ..))))))
    unfold putX
    rw [if_pos (List.mem_of_getElem? hj)]
    refine ⟨by rw [List.length_map]; exact h1, h2, _, _, _, Heap.get?_update_self _ ho (Obj.isFreed_of_dict (Obj.data_mapDict hd _)), hc.mapDict _, Obj.data_mapDict hd _, ?_⟩
    have := paired_mod (u := z) ry hn hj hp
    obtain ⟨l⟩ := es
    simpa using this
theorem dx_typeIs (hm : DxAt w d xs s.heap) : s.TypeIs (.ref d) "dict" := let ⟨_, _, o, _, _, ho, hc, _⟩ := hm; ⟨o, ho, hc.1⟩
end
/-! ### asked of it -/
section
variable {prog : Program} {w : World} {A : Around} {E : Value → Shared → Prop} {s : Shared} {d : Addr} {k : NestedKey} {u : Value} {xs : List XEn}
/-- what an asking stands on -/
structure DxOn (w : World) (A : Around) (s : Shared) (d : Addr) (xs : List XEn) (k : NestedKey) (u : Value) : Prop where
  rm : A.units + 16 < cLine
  ky : KyIs s.heap k u
  di : DxAt w d xs s.heap
  ks : ∀ x ∈ xs, ∀ v, RelV x.2.1 v → KyIs s.heap x.1 v
  nd : (xs.map (·.1)).Nodup
theorem DxOn.get1 {Q : Option Value → Shared → Prop} (O : DxOn w A s d xs k u) (h : ∀ r, RelO (valX xs k) r → Q r { s with toks := s.toks + k.draws }) : wpAny (model prog w) A.in1 (dictGet d u) Q E s :=
  dx_get (by have := O.rm; show A.units + 1 + 8 < cLine; omega) O.ky O.di O.ks O.nd h
theorem DxOn.sys (O : DxOn w A s d xs k u) : (d == sysModules) = false := O.di.2.1
theorem DxOn.has {Q : Bool → Shared → Prop} (O : DxOn w A s d xs k u) (h : Q (valX xs k).isSome { s with toks := s.toks + k.draws }) : wpAny (model prog w) A (contains (.ref d) u) Q E s := by
  refine wpAny_contains_slot (dx_typeIs O.di) F.slot_dict_contains ?_
  refine call_meetsIn F.slot_dict_contains (dx_typeIs O.di) F.entry_dict_contains (F.args_dict_contains_2 _ _) (S := fun B R z => B = A ∧ z = s ∧ R (.ok (.ret (.bool (valX xs k).isSome))) { s with toks := s.toks + k.draws }) (fun B R z hS => ?_) ⟨rfl, rfl, wpAny_truthy_bool h⟩
  obtain ⟨rfl, rfl, hq⟩ := hS
  show wpAny _ _ (dictGet d u >>= _) _ _ _
  refine wpAny_bind (O.get1 fun r rr => ?_)
  rw [rr.isSome_eq] at hq
  cases r with
  | some v => exact (show wpAny _ _ (ret (.bool true)) _ _ _ from wpAny_pure hq)
  | none => exact (show wpAny _ _ (Builtin.Dict.pendingKey? d u >>= _) _ _ _ from wpAny_bind (wpAny_pendingKey_other O.sys (wpAny_pure hq)))
theorem DxOn.in_ {Q : Value → Shared → Prop} (O : DxOn w A s d xs k u) (h : Q (.bool (valX xs k).isSome) { s with toks := s.toks + k.draws }) : wpAny (model prog w) A (compareOp .In u (.ref d)) Q E s :=
  (show wpAny _ _ (do return .bool (← contains (.ref d) u)) Q E s from wpAny_bind (O.has (wpAny_pure h)))
theorem DxOn.notIn {Q : Value → Shared → Prop} (O : DxOn w A s d xs k u) (h : Q (.bool (!(valX xs k).isSome)) { s with toks := s.toks + k.draws }) : wpAny (model prog w) A (compareOp .NotIn u (.ref d)) Q E s :=
  (show wpAny _ _ (do return .bool (!(← contains (.ref d) u))) Q E s from wpAny_bind (O.has (wpAny_pure h)))
theorem DxOn.item {Q : Value → Shared → Prop} {v : V} (O : DxOn w A s d xs k u) (hv : valX xs k = some v) (h : ∀ r, RelV v r → Q r { s with toks := s.toks + k.draws }) : wpAny (model prog w) A (getItem (.ref d) u) Q E s := by
  have ty := dx_typeIs O.di
  unfold getItem
  refine wpAny_holding (wpAny_bind (wpAny_sequenceKey ty (by decide) (wpAny_bind ?_)))
  refine wpAny_callSpecial?_slot (name := Str.ofString "__getitem__") ty slot_dict_getitem (wpAny_call_entry slot_dict_getitem ty entry_dict_getitem ?_ (args_dict_getitem _ u))
  show wpAny _ _ (dictGet d u >>= _) _ _ s
  refine wpAny_bind (O.get1 fun r rr => ?_)
  rw [hv] at rr
  obtain ⟨x, rfl, rx⟩ := rr.some_of
  exact wpAny_pure ⟨x, rfl, wpAny_pure (h x rx)⟩
theorem DxOn.put {Q : Unit → Shared → Prop} {x y : V} {z : Value} (O : DxOn w A s d xs k u) (hl : xs.length < sizeLine) (rx : RelV x u) (ry : RelV y z) (h : ∀ h', DxAt w d (putX xs k x y) h' → Heap.SameBut d s.heap h' → Q () { s with heap := h', toks := s.toks + k.draws }) :
    wpAny (model prog w) A (setItem (.ref d) u z) Q E s := by
  have ty := dx_typeIs O.di
  unfold setItem
  refine wpAny_holding (wpAny_bind (wpAny_sequenceKey ty (by decide) (wpAny_bind ?_)))
  refine wpAny_callSpecial?_slot (name := Str.ofString "__setitem__") ty slot_dict_setitem (wpAny_call_entry slot_dict_setitem ty entry_dict_setitem ?_ (args_dict_setitem _ u z))
  show wpAny _ _ (Builtin.Dict.notOrdered "__setitem__" ⟨[.ref d, u, z], []⟩ >>= _) _ _ s
  refine wpAny_bind (wpAny_notOrdered_dict ty ?_)
  show wpAny _ _ (dictSet d u z >>= _) _ _ s
  exact wpAny_bind (dx_set (by have := O.rm; show A.units + 1 + 8 < cLine; omega) O.ky O.di O.ks O.nd hl rx ry fun h' a b => wpAny_pure ⟨.none, rfl, wpAny_pure (h h' a b)⟩)
theorem DxOn.got {Q : Value → Shared → Prop} (O : DxOn w A s d xs k u) (h : ∀ r, RelO (valX xs k) r → Q (r.getD .none) { s with toks := s.toks + k.draws }) : wpAny (model prog w) A (call (.builtin "dict.get") [.ref d, u]) Q E s := by
  refine call_meetsIn F.slot_dict_get (dx_typeIs O.di) F.entry_dict_get (F.args_dict_get_2 _ u) (S := fun B R z => B = A ∧ z = s ∧ ∀ r, RelO (valX xs k) r → R (.ok (.ret (r.getD .none))) { s with toks := s.toks + k.draws }) (.of_wp fun B R z hS => ?_) ⟨rfl, rfl, fun r rr => h r rr⟩
  obtain ⟨rfl, rfl, hq⟩ := hS
  show wpAny _ _ (dictGet d u >>= _) _ _ _
  refine wpAny_bind (O.get1 fun r rr => ?_)
  have q := hq r rr
  cases r with
  | some v => exact wpAny_pure ⟨v, rfl, q⟩
  | none => exact (show wpAny _ _ (Builtin.Dict.missed d u >>= _) _ _ _ from wpAny_bind (wpAny_missed_other O.sys (wpAny_pure ⟨.none, rfl, q⟩)))
theorem DxOn.gotOr {Q : Value → Shared → Prop} {x : Value} (O : DxOn w A s d xs k u) (h : ∀ r, RelO (valX xs k) r → Q (r.getD x) { s with toks := s.toks + k.draws }) : wpAny (model prog w) A (call (.builtin "dict.get") [.ref d, u, x]) Q E s := by
  refine call_meetsIn F.slot_dict_get (dx_typeIs O.di) F.entry_dict_get (F.args_dict_get_3 _ u x) (S := fun B R z => B = A ∧ z = s ∧ ∀ r, RelO (valX xs k) r → R (.ok (.ret (r.getD x))) { s with toks := s.toks + k.draws }) (.of_wp fun B R z hS => ?_) ⟨rfl, rfl, fun r rr => h r rr⟩
  obtain ⟨rfl, rfl, hq⟩ := hS
  show wpAny _ _ (dictGet d u >>= _) _ _ _
  refine wpAny_bind (O.get1 fun r rr => ?_)
  have q := hq r rr
  cases r with
  | some v => exact wpAny_pure ⟨v, rfl, q⟩
  | none => exact (show wpAny _ _ (Builtin.Dict.missed d u >>= _) _ _ _ from wpAny_bind (wpAny_missed_other O.sys (wpAny_pure ⟨x, rfl, q⟩)))
end
end PV

/-! Data as values over the hand layer: D (trees; tuples are values), Mp (what may change), readings over both. -/
namespace PV
open PySem L2

/-- a value with all tuples within; lists, dicts, instances by their address -/
inductive D where
  | non | bl (b : Bool) | int (i : Int) | str (s : Str) | tup (l : List D) | ref (a : Addr) | ty (n : String)

mutual
def Rep (K : PySem.W.Frag) (H : Hp) : D → V → Prop
  | .non, v => v = .non
  | .bl b, v => v = .bl b
  | .int i, v => v = .int i
  | .str s, v => v = .str s
  | .tup l, v => ∃ a vs, v = .ref a ∧ SqT K H a vs ∧ Reps K H l vs
  | .ref a, v => v = .ref a
  | .ty n, v => v = .ty n
def Reps (K : PySem.W.Frag) (H : Hp) : List D → List V → Prop
  | [], vs => vs = []
  | d :: ds, vs => ∃ v r, vs = v :: r ∧ Rep K H d v ∧ Reps K H ds r
end

mutual
/-- a thing as a dict's key -/
def nk : D → NestedKey
  | .non => .none
  | .bl b => .num (if b then 1 else 0)
  | .int i => .num i
  | .str z => .text z
  | .tup l => .tup (nks l)
  | .ref _ => .none
  | .ty _ => .none
def nks : List D → List NestedKey
  | [] => []
  | d :: l => nk d :: nks l
end
/-- a dict's keys and values, told and tracked -/
def RepXs (K : PySem.W.Frag) (H : Hp) : List (D × D) → List XEn → Prop
  | [], r => r = []
  | (k, d) :: ds, r => ∃ x y r', r = (nk k, x, y) :: r' ∧ Rep K H k x ∧ Rep K H d y ∧ RepXs K H ds r'

/-- what never goes: tuples, what is locked -/
def Ext (H H' : Hp) : Prop := (∀ a xs, H a = some (.tup xs) → H' a = some (.tup xs)) ∧ (∀ a o u, H a = some (.frz o u) → H' a = some (.frz o u))
theorem Ext.refl (H : Hp) : Ext H H := ⟨fun _ _ h => h, fun _ _ _ h => h⟩
theorem Ext.trans {H H1 H2 : Hp} (a : Ext H H1) (b : Ext H1 H2) : Ext H H2 := ⟨fun c xs h => b.1 c xs (a.1 c xs h), fun c o u h => b.2 c o u (a.2 c o u h)⟩
theorem Ext.new {H : Hp} {p : Addr} {o : HO} (h : H p = none) : Ext H (upd H p o) :=
  ⟨fun a xs e => by rw [upd_ne (ne_of_none e h)]; exact e, fun a ob u e => by rw [upd_ne (ne_of_none e h)]; exact e⟩
theorem Ext.put {H : Hp} {p : Addr} {o u : HO} (h : H p = some u) (h1 : ∀ xs, u ≠ .tup xs) (h2 : ∀ ob v, u ≠ .frz ob v) : Ext H (upd H p o) :=
  ⟨fun a xs e => by rw [upd_ne (fun z => by rw [z, h] at e; exact h1 _ (Option.some.inj e))]; exact e,
   fun a ob v e => by rw [upd_ne (fun z => by rw [z, h] at e; exact h2 _ _ (Option.some.inj e))]; exact e⟩
theorem Ext.sqT {K : PySem.W.Frag} {H H' : Hp} {a : Addr} {xs : List V} (e : Ext H H') (h : SqT K H a xs) : SqT K H' a xs := by
  rcases h with (h | ⟨o, h⟩) | h
  · exact .inl (.inl (e.1 _ _ h))
  · exact .inl (.inr ⟨o, e.2 _ _ _ h⟩)
  · exact .inr h

mutual
theorem Rep.mono {K : PySem.W.Frag} {H H' : Hp} (e : Ext H H') : ∀ {d : D} {v : V}, Rep K H d v → Rep K H' d v
  | .non, _, h => h
  | .bl _, _, h => h
  | .int _, _, h => h
  | .str _, _, h => h
  | .tup l, _, h => by
    obtain ⟨a, vs, e1, e2, e3⟩ := h
    exact ⟨a, vs, e1, e.sqT e2, Reps.mono e e3⟩
  | .ref _, _, h => h
  | .ty _, _, h => h
theorem Reps.mono {K : PySem.W.Frag} {H H' : Hp} (e : Ext H H') : ∀ {ds : List D} {vs : List V}, Reps K H ds vs → Reps K H' ds vs
  | [], _, h => h
  | d :: ds, _, h => by
    obtain ⟨v, r, e1, e2, e3⟩ := h
    exact ⟨v, r, e1, Rep.mono e e2, Reps.mono e e3⟩
end
theorem Reps.length {K : PySem.W.Frag} {H : Hp} : ∀ {ds : List D} {vs : List V}, Reps K H ds vs → ds.length = vs.length
  | [], _, h => by cases h; rfl
  | d :: ds, _, h => by
    obtain ⟨v, r, rfl, _, h3⟩ := h
    simp [Reps.length h3]
theorem Reps.get {K : PySem.W.Frag} {H : Hp} : ∀ {ds : List D} {vs : List V} {i : Nat} {d : D}, Reps K H ds vs → ds[i]? = some d → ∃ v, vs[i]? = some v ∧ Rep K H d v
  | [], _, _, _, _, e => by simp at e
  | d :: ds, _, 0, _, h, e => by
    obtain ⟨v, r, rfl, h2, _⟩ := h
    simp at e; subst e
    exact ⟨v, rfl, h2⟩
  | d :: ds, _, i + 1, _, h, e => by
    obtain ⟨v, r, rfl, _, h3⟩ := h
    simpa using Reps.get h3 (by simpa using e)
theorem Reps.getV {K : PySem.W.Frag} {H : Hp} : ∀ {ds : List D} {vs : List V} {i : Nat} {v : V}, Reps K H ds vs → vs[i]? = some v → ∃ d, ds[i]? = some d ∧ Rep K H d v
  | [], _, _, _, h, e => by cases h; simp at e
  | d :: ds, _, 0, _, h, e => by
    obtain ⟨v, r, rfl, h2, _⟩ := h
    simp at e; subst e
    exact ⟨d, rfl, h2⟩
  | d :: ds, _, i + 1, _, h, e => by
    obtain ⟨v, r, rfl, _, h3⟩ := h
    simpa using Reps.getV h3 (by simpa using e)
theorem Reps.append {K : PySem.W.Frag} {H : Hp} : ∀ {ds es : List D} {vs ws : List V}, Reps K H ds vs → Reps K H es ws → Reps K H (ds ++ es) (vs ++ ws)
  | [], _, _, _, h, q => by cases h; exact q
  | d :: ds, _, _, _, h, q => by
    obtain ⟨v, r, rfl, h2, h3⟩ := h
    exact ⟨v, r ++ _, rfl, h2, Reps.append h3 q⟩
theorem Reps.take {K : PySem.W.Frag} {H : Hp} : ∀ {ds : List D} {vs : List V} (n : Nat), Reps K H ds vs → Reps K H (ds.take n) (vs.take n)
  | _, _, 0, _ => rfl
  | [], _, n + 1, h => by cases h; rfl
  | d :: ds, _, n + 1, h => by
    obtain ⟨v, r, rfl, h2, h3⟩ := h
    exact ⟨v, r.take n, rfl, h2, Reps.take n h3⟩
theorem Reps.drop {K : PySem.W.Frag} {H : Hp} : ∀ {ds : List D} {vs : List V} (n : Nat), Reps K H ds vs → Reps K H (ds.drop n) (vs.drop n)
  | _, _, 0, h => h
  | [], _, n + 1, h => by cases h; rfl
  | d :: ds, _, n + 1, h => by
    obtain ⟨v, r, rfl, _, h3⟩ := h
    exact Reps.drop n h3
theorem Reps.set {K : PySem.W.Frag} {H : Hp} {d : D} {v : V} (q : Rep K H d v) : ∀ {ds : List D} {vs : List V} (i : Nat), Reps K H ds vs → Reps K H (ds.set i d) (vs.set i v)
  | [], _, _, h => by cases h; rfl
  | _ :: ds, _, 0, h => by
    obtain ⟨v, r, rfl, _, h3⟩ := h
    exact ⟨_, r, rfl, q, h3⟩
  | _ :: ds, _, i + 1, h => by
    obtain ⟨v, r, rfl, h2, h3⟩ := h
    exact ⟨v, r.set i _, rfl, h2, Reps.set q i h3⟩
theorem Reps.one {K : PySem.W.Frag} {H : Hp} {d : D} {v : V} (q : Rep K H d v) : Reps K H [d] [v] := ⟨v, [], rfl, q, rfl⟩
theorem Reps.cons {K : PySem.W.Frag} {H : Hp} {d : D} {v : V} {ds : List D} {vs : List V} (q : Rep K H d v) (r : Reps K H ds vs) : Reps K H (d :: ds) (v :: vs) := ⟨v, vs, rfl, q, r⟩
theorem Reps.ints {K : PySem.W.Frag} {H : Hp} : ∀ {ns : List Int} {vs : List V}, Reps K H (ns.map D.int) vs → vs = ns.map V.int
  | [], _, h => h
  | n :: ns, _, h => by
    obtain ⟨v, r, rfl, h2, h3⟩ := h
    have h2' : v = .int n := h2
    rw [h2', Reps.ints h3]; rfl
theorem Reps.ofInts {K : PySem.W.Frag} {H : Hp} : ∀ {ns : List Int}, Reps K H (ns.map D.int) (ns.map V.int)
  | [] => rfl
  | n :: ns => ⟨_, _, rfl, rfl, Reps.ofInts⟩
theorem Reps.strs {K : PySem.W.Frag} {H : Hp} : ∀ {ns : List Str} {vs : List V}, Reps K H (ns.map D.str) vs → vs = ns.map V.str
  | [], _, h => h
  | n :: ns, _, h => by
    obtain ⟨v, r, rfl, h2, h3⟩ := h
    have h2' : v = .str n := h2
    rw [h2', Reps.strs h3]; rfl
theorem Reps.ofStrs {K : PySem.W.Frag} {H : Hp} : ∀ {ns : List Str}, Reps K H (ns.map D.str) (ns.map V.str)
  | [] => rfl
  | n :: ns => ⟨_, _, rfl, rfl, Reps.ofStrs⟩
theorem Reps.bls {K : PySem.W.Frag} {H : Hp} : ∀ {ns : List Bool} {vs : List V}, Reps K H (ns.map D.bl) vs → vs = ns.map V.bl
  | [], _, h => h
  | n :: ns, _, h => by
    obtain ⟨v, r, rfl, h2, h3⟩ := h
    have h2' : v = .bl n := h2
    rw [h2', Reps.bls h3]; rfl
theorem Reps.reverse {K : PySem.W.Frag} {H : Hp} : ∀ {ds : List D} {vs : List V}, Reps K H ds vs → Reps K H ds.reverse vs.reverse
  | [], _, h => by cases h; rfl
  | d :: ds, _, h => by
    obtain ⟨v, r, rfl, h2, h3⟩ := h
    rw [List.reverse_cons, List.reverse_cons]
    exact Reps.append (Reps.reverse h3) (Reps.one h2)
theorem Reps.dropLast {K : PySem.W.Frag} {H : Hp} {ds : List D} {vs : List V} (h : Reps K H ds vs) : Reps K H ds.dropLast vs.dropLast := by
  rw [List.dropLast_eq_take, List.dropLast_eq_take, h.length]
  exact h.take _
theorem Reps.rep {K : PySem.W.Frag} {H : Hp} {ds : List D} {vs : List V} (h : Reps K H ds vs) : ∀ k : Nat, Reps K H (List.replicate k ds).flatten (List.replicate k vs).flatten
  | 0 => rfl
  | k + 1 => by
    rw [List.replicate_succ, List.replicate_succ, List.flatten_cons, List.flatten_cons]
    exact Reps.append h (Reps.rep h k)

/-- what may change, by its address -/
inductive O where
  | lst (l : List D)
  /-- a list that is read alone -/
  | rol (l : List D)
  | dK (kvs : List (Key × D))
  /-- a dict that is locked while it is walked -/
  | rdK (kvs : List (Key × D))
  | dT (kvs : List (List Key × D))
  /-- a dict by keys of any kind -/
  | dD (kvs : List (D × D))
  | ins (C : String) (fs : List (Str × D))
  /-- an exception's own dict -/
  | xd (fs : List (Str × D))
  /-- an exception: its class, its own dict -/
  | exc (C : String) (d : Option Addr)
/-- f: what may change; kl: lists of the module's own -/
structure Mp where
  f : Addr → Option O
  kl : Addr → Option (List D)
instance : CoeFun Mp (fun _ => Addr → Option O) := ⟨Mp.f⟩
def mset (m : Mp) (a : Addr) (o : O) : Mp := { m with f := fun b => if b = a then some o else m.f b }
theorem mset_same {m : Mp} {a : Addr} {o : O} : mset m a o a = some o := by unfold mset; dsimp only; rw [if_pos rfl]
theorem mset_ne {m : Mp} {a b : Addr} {o : O} (h : b ≠ a) : mset m a o b = m b := by unfold mset; dsimp only; rw [if_neg h]
theorem Mp.ext {m m' : Mp} (h : ∀ a, m a = m' a) (k : m.kl = m'.kl) : m = m' := by
  cases m; cases m'
  have : _ = _ := funext h
  dsimp only at this k
  subst this k
  rfl
theorem mset_mset {m : Mp} {a : Addr} {o u : O} : mset (mset m a o) a u = mset m a u :=
  Mp.ext (fun b => by unfold mset; dsimp only; split <;> rfl) rfl
theorem mset_comm {m : Mp} {a b : Addr} {o u : O} (h : a ≠ b) : mset (mset m a o) b u = mset (mset m b u) a o := by
  refine Mp.ext (fun c => ?_) rfl
  unfold mset
  dsimp only
  by_cases h1 : c = a
  · rw [if_neg (by rw [h1]; exact h), if_pos h1, if_pos h1]
  · by_cases h2 : c = b
    · rw [if_pos h2, if_neg h1, if_pos h2]
    · rw [if_neg h2, if_neg h1, if_neg h1, if_neg h2]
theorem mset_id {m : Mp} {a : Addr} {o : O} (h : m a = some o) : mset m a o = m :=
  Mp.ext (fun b => by
    unfold mset; dsimp only
    by_cases e : b = a
    · rw [if_pos e, e]; exact h.symm
    · rw [if_neg e]) rfl
theorem ne_none {m : Mp} {a b : Addr} {o : O} (h : m a = some o) (h' : m b = none) : a ≠ b := by
  intro e; subst e; rw [h] at h'; cases h'
/-- less is known -/
def Le (m m' : Mp) : Prop := m.kl = m'.kl ∧ ∀ a o, m a = some o → m' a = some o
theorem Le.refl (m : Mp) : Le m m := ⟨rfl, fun _ _ h => h⟩
theorem Le.trans {a b c : Mp} (h : Le a b) (h' : Le b c) : Le a c := ⟨h.1.trans h'.1, fun p o q => h'.2 p o (h.2 p o q)⟩
theorem Le.gone {m m' : Mp} (h : Le m m') {a : Addr} (e : m' a = none) : m a = none := by
  cases q : m a with
  | none => rfl
  | some o => rw [h.2 a o q] at e; cases e
theorem Le.new {m m' : Mp} (h : Le m m') {a : Addr} {o : O} (e : m a = none) : Le m (mset m' a o) := ⟨h.1, fun b u q => by
  rw [mset_ne (ne_none q e)]
  exact h.2 b u q⟩
theorem Le.set {m m' : Mp} (h : Le m m') (a : Addr) (o : O) : Le (mset m a o) (mset m' a o) := ⟨h.1, fun b u q => by
  by_cases e : b = a
  · subst e; rw [mset_same] at q ⊢; exact q
  · rw [mset_ne e] at q ⊢; exact h.2 b u q⟩
/-- a list to be read -/
def RL (m : Mp) (a : Addr) (l : List D) : Prop := m a = some (.lst l) ∨ m a = some (.rol l) ∨ m.kl a = some l
theorem RL.of {m : Mp} {a : Addr} {l : List D} (h : m a = some (.lst l)) : RL m a l := .inl h
theorem RL.le {m m' : Mp} {a : Addr} {l : List D} (h : RL m a l) (e : Le m m') : RL m' a l := by
  rcases h with h | h | h
  · exact .inl (e.2 _ _ h)
  · exact .inr (.inl (e.2 _ _ h))
  · exact .inr (.inr (e.1 ▸ h))

theorem RepXs.mono {K : PySem.W.Frag} {H H' : Hp} (e : Ext H H') : ∀ {ds : List (D × D)} {xs : List XEn}, RepXs K H ds xs → RepXs K H' ds xs
  | [], _, h => h
  | (k, d) :: ds, _, h => by
    obtain ⟨x, y, r, e1, e2, e3, e4⟩ := h
    exact ⟨x, y, r, e1, e2.mono e, e3.mono e, RepXs.mono e e4⟩
def RepK {κ : Type} (K : PySem.W.Frag) (H : Hp) : List (κ × D) → List (κ × V) → Prop
  | [], r => r = []
  | (k, d) :: ds, r => ∃ v r', r = (k, v) :: r' ∧ Rep K H d v ∧ RepK K H ds r'
theorem RepK.mono {κ : Type} {K : PySem.W.Frag} {H H' : Hp} (e : Ext H H') : ∀ {ds : List (κ × D)} {vs : List (κ × V)}, RepK K H ds vs → RepK K H' ds vs
  | [], _, h => h
  | (k, d) :: ds, _, h => by
    obtain ⟨v, r, e1, e2, e3⟩ := h
    exact ⟨v, r, e1, e2.mono e, RepK.mono e e3⟩

theorem RepK.length {κ : Type} {K : PySem.W.Frag} {H : Hp} : ∀ {ds : List (κ × D)} {vs : List (κ × V)}, RepK K H ds vs → ds.length = vs.length
  | [], _, h => by cases h; rfl
  | (k, d) :: ds, _, h => by
    obtain ⟨v, r, rfl, _, h3⟩ := h
    simp [RepK.length h3]
theorem RepK.append {κ : Type} {K : PySem.W.Frag} {H : Hp} : ∀ {ds es : List (κ × D)} {vs ws : List (κ × V)}, RepK K H ds vs → RepK K H es ws → RepK K H (ds ++ es) (vs ++ ws)
  | [], _, _, _, h, q => by cases h; exact q
  | (k, d) :: ds, _, _, _, h, q => by
    obtain ⟨v, r, rfl, h2, h3⟩ := h
    exact ⟨v, r ++ _, rfl, h2, RepK.append h3 q⟩
theorem RepK.keys {κ : Type} {K : PySem.W.Frag} {H : Hp} : ∀ {ds : List (κ × D)} {vs : List (κ × V)}, RepK K H ds vs → ds.map (·.1) = vs.map (·.1)
  | [], _, h => by cases h; rfl
  | (k, d) :: ds, _, h => by
    obtain ⟨v, r, rfl, _, h3⟩ := h
    simp [RepK.keys h3]
theorem RepK.vals {κ : Type} {K : PySem.W.Frag} {H : Hp} : ∀ {ds : List (κ × D)} {vs : List (κ × V)}, RepK K H ds vs → Reps K H (ds.map (·.2)) (vs.map (·.2))
  | [], _, h => by cases h; rfl
  | (k, d) :: ds, _, h => by
    obtain ⟨v, r, rfl, h2, h3⟩ := h
    exact ⟨v, r.map (·.2), rfl, h2, RepK.vals h3⟩
/-- what a dict holds at a key -/
def getD {κ : Type} [DecidableEq κ] (kvs : List (κ × D)) (k : κ) : Option D := (kvs.find? fun kv => decide (kv.1 = k)).map (·.2)
def putD {κ : Type} [DecidableEq κ] (kvs : List (κ × D)) (k : κ) (v : D) : List (κ × D) :=
  if kvs.any (fun kv => decide (kv.1 = k)) then kvs.map (fun kv => if kv.1 = k then (kv.1, v) else kv) else kvs ++ [(k, v)]
theorem getD_nil {κ : Type} [DecidableEq κ] {k : κ} : getD ([] : List (κ × D)) k = none := rfl
theorem getD_pos {κ : Type} [DecidableEq κ] {p : κ × D} {r : List (κ × D)} {k : κ} (e : p.1 = k) : getD (p :: r) k = some p.2 := by simp [getD, List.find?_cons, e]
theorem getD_neg {κ : Type} [DecidableEq κ] {p : κ × D} {r : List (κ × D)} {k : κ} (e : ¬ p.1 = k) : getD (p :: r) k = getD r k := by simp [getD, List.find?_cons, e]
section
variable {κ : Type} [DecidableEq κ] {K : PySem.W.Frag} {H : Hp}
theorem RepK.val (k : κ) : ∀ {ds : List (κ × D)} {vs : List (κ × V)}, RepK K H ds vs → (getD ds k = none ∧ L2.valV vs k = none) ∨ ∃ d v, getD ds k = some d ∧ L2.valV vs k = some v ∧ Rep K H d v
  | [], _, h => by cases h; exact .inl ⟨rfl, rfl⟩
  | (k', d) :: ds, _, h => by
    obtain ⟨v, r, rfl, h2, h3⟩ := h
    by_cases e : k' = k
    · exact .inr ⟨d, v, getD_pos e, L2.valV_pos e, h2⟩
    · rw [getD_neg e, L2.valV_neg e]
      exact RepK.val k h3
theorem RepK.some {k : κ} {ds : List (κ × D)} {vs : List (κ × V)} {d : D} (h : RepK K H ds vs) (e : getD ds k = some d) : ∃ v, L2.valV vs k = some v ∧ Rep K H d v := by
  rcases h.val k with ⟨h1, _⟩ | ⟨d', v, h1, h2, h3⟩
  · rw [h1] at e; cases e
  · rw [h1] at e; cases e; exact ⟨v, h2, h3⟩
theorem RepK.none {k : κ} {ds : List (κ × D)} {vs : List (κ × V)} (h : RepK K H ds vs) (e : getD ds k = none) : L2.valV vs k = none := by
  rcases h.val k with ⟨_, h1⟩ | ⟨d', v, h1, h2, h3⟩
  · exact h1
  · rw [h1] at e; cases e
theorem RepK.repl {k : κ} {d : D} {v : V} (q : Rep K H d v) : ∀ {ds : List (κ × D)} {vs : List (κ × V)}, RepK K H ds vs →
    RepK K H (ds.map fun kv => if kv.1 = k then (kv.1, d) else kv) (vs.map fun kv => if kv.1 = k then (kv.1, v) else kv)
  | [], _, h => by cases h; rfl
  | (k', d') :: ds, _, h => by
    obtain ⟨v', r, rfl, h2, h3⟩ := h
    have ih := RepK.repl (k := k) q h3
    by_cases e : k' = k
    · simp only [List.map_cons, if_pos e]
      exact ⟨v, _, rfl, q, ih⟩
    · simp only [List.map_cons, if_neg e]
      exact ⟨v', _, rfl, h2, ih⟩
theorem RepK.any {ds : List (κ × D)} {vs : List (κ × V)} (k : κ) (h : RepK K H ds vs) : (ds.any fun kv => decide (kv.1 = k)) = vs.any fun kv => decide (kv.1 = k) := by
  have e := h.keys
  have e1 : ∀ l : List (κ × D), (l.any fun kv => decide (kv.1 = k)) = (l.map (·.1)).any fun y => decide (y = k) := fun l => by rw [List.any_map]; rfl
  have e2 : ∀ l : List (κ × V), (l.any fun kv => decide (kv.1 = k)) = (l.map (·.1)).any fun y => decide (y = k) := fun l => by rw [List.any_map]; rfl
  rw [e1, e2, e]
theorem RepK.put {k : κ} {d : D} {v : V} {ds : List (κ × D)} {vs : List (κ × V)} (h : RepK K H ds vs) (q : Rep K H d v) : RepK K H (putD ds k d) (L2.putK vs k v) := by
  unfold putD L2.putK
  rw [h.any k]
  split
  · exact h.repl q
  · exact h.append ⟨v, [], rfl, q, rfl⟩
end
def keyD : Key → D
  | .inl i => .int i
  | .inr z => .str z
theorem rep_key {K : PySem.W.Frag} {H : Hp} {k : Key} {v : V} (h : Rep K H (keyD k) v) : v = kV k := by
  cases k <;> exact h
theorem key_rep {K : PySem.W.Frag} {H : Hp} (k : Key) : Rep K H (keyD k) (kV k) := by
  cases k <;> rfl

/-- the classes of the program by their names -/
structure Cl where
  f : String → Option Addr
  w : World
instance : CoeFun Cl (fun _ => String → Option Addr) := ⟨Cl.f⟩
/-- a list of the module's own -/
def SqK (K : PySem.W.Frag) (a : Addr) (xs : List V) : Prop :=
  ∃ (o : Obj) (its : Array Value) (n : Nat), K.lookup a = some o ∧ o.cls = .type "list" ∧ o.dict = none ∧ o.data = .seq its n ∧ its.size ≤ sizeLine ∧ Vals xs its.toList
/-- the program's own exception classes -/
def eNames : List String := ["VaultError", "NoThing", "NoPaper", "BadThing", "Clash", "NotOn", "NoState", "NoName", "NoTable", "NoColumn", "NoRow", "NoQuestion", "NoPlan", "NoStep", "NotSo", "NoCommand"]
/-- an exception's object, tracked -/
def exoH (cls : Value) (d : Option Addr) (a : Addr) : HO := .ext fun h => ∃ oe : Obj, h.get? a = some oe ∧ Zc cls d oe ∧ ∃ vs, oe.data = .fields vs
def RepO (K : PySem.W.Frag) (cl : Cl) (H : Hp) (a : Addr) : O → Prop
  | .lst l => ∃ vs, H a = some (.lst vs) ∧ Reps K H l vs
  | .rol l => ∃ o vs, H a = some (.frz o (.lst vs)) ∧ Reps K H l vs
  | .dK kvs => ∃ kws, H a = some (.dK kws) ∧ RepK K H kvs kws
  | .dT kvs => ∃ kws, H a = some (.dT kws) ∧ RepK K H kvs kws
  | .rdK kvs => ∃ o kws, H a = some (.frz o (.dK kws)) ∧ RepK K H kvs kws
  | .dD kvs => ∃ xs, H a = some (dxH cl.w a xs) ∧ RepXs K H kvs xs
  | .ins C fs => ∃ Ca dx fvs, (C ∉ eNames ∧ cl C = some Ca) ∧ H a = some (.ins Ca dx fvs) ∧ RepK K H fs fvs
  | .xd fs => ∃ fvs, H a = some (.xd fvs) ∧ RepK K H fs fvs
  | .exc C d => ∃ Ca, C ∈ eNames ∧ cl C = some Ca ∧ H a = some (exoH (.ref Ca) d a)
theorem RepO.mono {K : PySem.W.Frag} {cl : Cl} {H H' : Hp} {a : Addr} (e : Ext H H') (ha : H' a = H a) : ∀ {o : O}, RepO K cl H a o → RepO K cl H' a o
  | .lst l, ⟨vs, h1, h2⟩ => ⟨vs, ha.trans h1, h2.mono e⟩
  | .rol l, ⟨o, vs, h1, h2⟩ => ⟨o, vs, ha.trans h1, h2.mono e⟩
  | .dK _, ⟨vs, h1, h2⟩ => ⟨vs, ha.trans h1, h2.mono e⟩
  | .dT _, ⟨vs, h1, h2⟩ => ⟨vs, ha.trans h1, h2.mono e⟩
  | .rdK _, ⟨o, vs, h1, h2⟩ => ⟨o, vs, ha.trans h1, h2.mono e⟩
  | .dD _, ⟨xs, h1, h2⟩ => ⟨xs, ha.trans h1, h2.mono e⟩
  | .ins _ _, ⟨Ca, dx, vs, h0, h1, h2⟩ => ⟨Ca, dx, vs, h0, ha.trans h1, h2.mono e⟩
  | .xd _, ⟨vs, h1, h2⟩ => ⟨vs, ha.trans h1, h2.mono e⟩
  | .exc _ _, ⟨Ca, hn, h0, h1⟩ => ⟨Ca, hn, h0, ha.trans h1⟩

def Ab (K : PySem.W.Frag) (cl : Cl) (H : Hp) (m : Mp) : Prop := (∀ a o, m a = some o → RepO K cl H a o) ∧ ∀ a l, m.kl a = some l → ∃ vs, SqK K a vs ∧ ∀ H, Reps K H l vs
theorem Ab.rl {K : PySem.W.Frag} {cl : Cl} {H : Hp} {m : Mp} {a : Addr} {l : List D} (h : Ab K cl H m) (q : RL m a l) : ∃ vs, SqL K H a vs ∧ Reps K H l vs := by
  rcases q with q | q | q
  · obtain ⟨vs, h1, h2⟩ := h.1 a _ q
    exact ⟨vs, SqL.of h1, h2⟩
  · obtain ⟨o, vs, h1, h2⟩ := h.1 a _ q
    exact ⟨vs, .inl (.inr ⟨o, h1⟩), h2⟩
  · obtain ⟨vs, h1, h2⟩ := h.2 a l q
    exact ⟨vs, .inr h1, h2 H⟩
section
variable {K : PySem.W.Frag} {cl : Cl} {H H' : Hp} {m m' : Mp} {p : Addr} {o o' : O} {u : HO}
theorem Ab.le (h : Ab K cl H m') (l : Le m m') : Ab K cl H m := ⟨fun a o e => h.1 a o (l.2 a o e), fun a x e => h.2 a x (l.1 ▸ e)⟩
theorem Ab.same (h : Ab K cl H m) (e : Ext H H') (k : ∀ a o, m a = some o → H' a = H a) : Ab K cl H' m := ⟨fun a o q => (h.1 a o q).mono e (k a o q), h.2⟩
theorem Ab.there (h : Ab K cl H m) (q : m p = some o) : ∃ u, H p = some u := by
  have r := h.1 p o q
  cases o with
  | lst l => obtain ⟨vs, h1, _⟩ := r; exact ⟨_, h1⟩
  | rol l => obtain ⟨_, vs, h1, _⟩ := r; exact ⟨_, h1⟩
  | dK l => obtain ⟨vs, h1, _⟩ := r; exact ⟨_, h1⟩
  | dT l => obtain ⟨vs, h1, _⟩ := r; exact ⟨_, h1⟩
  | rdK l => obtain ⟨_, vs, h1, _⟩ := r; exact ⟨_, h1⟩
  | dD l => obtain ⟨vs, h1, _⟩ := r; exact ⟨_, h1⟩
  | ins C fs => obtain ⟨_, _, vs, _, h1, _⟩ := r; exact ⟨_, h1⟩
  | xd fs => obtain ⟨vs, h1, _⟩ := r; exact ⟨_, h1⟩
  | exc C d => obtain ⟨_, _, _, h1⟩ := r; exact ⟨_, h1⟩
theorem Ab.free (h : Ab K cl H m) (n : H p = none) : m p = none := by
  cases q : m p with
  | none => rfl
  | some o => obtain ⟨u, e⟩ := h.there q; rw [n] at e; cases e
/-- a new thing that is not told of (a tuple) -/
theorem Ab.hid (h : Ab K cl H m) (n : H p = none) : Ab K cl (upd H p u) m := h.same (Ext.new n) fun a o q => by
  obtain ⟨v, e⟩ := h.there q
  exact upd_ne (ne_of_none e n)
theorem Ab.new (h : Ab K cl H m) (n : H p = none) (r : RepO K cl (upd H p u) p o) : Ab K cl (upd H p u) (mset m p o) := ⟨fun a x q => by
  by_cases e : a = p
  · subst e; rw [mset_same] at q; cases q; exact r
  · rw [mset_ne e] at q; exact (h.hid n).1 a x q, h.2⟩
theorem Ab.put (h : Ab K cl H m) (e : Ext H (upd H p u)) (r : RepO K cl (upd H p u) p o) : Ab K cl (upd H p u) (mset m p o) := ⟨fun a x q => by
  by_cases z : a = p
  · subst z; rw [mset_same] at q; cases q; exact r
  · rw [mset_ne z] at q; exact (h.1 a x q).mono e (upd_ne z), h.2⟩
theorem ext_lst {xs : List V} (h : H p = some (.lst xs)) : Ext H (upd H p u) := Ext.put h (fun _ z => by cases z) (fun _ _ z => by cases z)
theorem ext_dK {xs : List (Key × V)} (h : H p = some (.dK xs)) : Ext H (upd H p u) := Ext.put h (fun _ z => by cases z) (fun _ _ z => by cases z)
theorem ext_dT {xs : List (List Key × V)} (h : H p = some (.dT xs)) : Ext H (upd H p u) := Ext.put h (fun _ z => by cases z) (fun _ _ z => by cases z)
theorem ext_ins {C dx : Addr} {fs : List (Str × V)} (h : H p = some (.ins C dx fs)) : Ext H (upd H p u) := Ext.put h (fun _ z => by cases z) (fun _ _ z => by cases z)
end

/-! ### readings -/
abbrev S3 := List (Option D)
/-- an exception: its class, its own dict -/
structure Xc where
  cls : String
  dct : Option Addr
abbrev K3 := D → Mp → Prop
abbrev X3 := Xc → Mp → Prop
abbrev TE3 := S3 → Mp → K3 → X3 → Prop
abbrev TT3 := S3 → Mp → (Bool → Mp → Prop) → X3 → Prop
abbrev TA3 := S3 → Mp → (List D → Mp → Prop) → X3 → Prop
structure N3 where
  nx : S3 → Mp → Prop
  rt : K3
  bk : S3 → Mp → Prop := fun _ _ => False
  ct : S3 → Mp → Prop := fun _ _ => False
  ex : S3 → X3
abbrev TS3 := N3 → S3 → Mp → Prop

def RepS (K : PySem.W.Frag) (H : Hp) (s : S3) (σ : L2.St) : Prop := s.length = σ.length ∧ ∀ (i : Nat) (d : D), s[i]? = some (some d) → ∃ v, σ[i]? = some (some v) ∧ Rep K H d v
theorem RepS.mono {K : PySem.W.Frag} {H H' : Hp} {s : S3} {σ : L2.St} (e : Ext H H') (h : RepS K H s σ) : RepS K H' s σ := ⟨h.1, fun i d q => let ⟨v, h1, h2⟩ := h.2 i d q; ⟨v, h1, h2.mono e⟩⟩
theorem RepS.set {K : PySem.W.Frag} {H : Hp} {s : S3} {σ : L2.St} {d : D} {v : V} (h : RepS K H s σ) (r : Rep K H d v) (i : Nat) : RepS K H (s.set i (some d)) (σ.set i (some v)) := by
  refine ⟨by rw [List.length_set, List.length_set, h.1], fun j e q => ?_⟩
  by_cases hj : i = j
  · subst hj
    by_cases hl : i < s.length
    · rw [List.getElem?_set_self hl] at q
      cases q
      exact ⟨v, List.getElem?_set_self (h.1 ▸ hl), r⟩
    · rw [List.getElem?_eq_none (by simpa using hl)] at q; cases q
  · rw [List.getElem?_set_ne hj] at q
    obtain ⟨w, h1, h2⟩ := h.2 j e q
    exact ⟨w, by rw [List.getElem?_set_ne hj]; exact h1, h2⟩
theorem RepS.wipe {K : PySem.W.Frag} {H : Hp} {s : S3} {σ : L2.St} (h : RepS K H s σ) (i : Nat) : RepS K H (s.set i none) (σ.set i none) := by
  refine ⟨by rw [List.length_set, List.length_set, h.1], fun j e q => ?_⟩
  by_cases hj : i = j
  · subst hj
    by_cases hl : i < s.length
    · rw [List.getElem?_set_self hl] at q; cases q
    · rw [List.getElem?_eq_none (by simpa using hl)] at q; cases q
  · rw [List.getElem?_set_ne hj] at q
    obtain ⟨w, h1, h2⟩ := h.2 j e q
    exact ⟨w, by rw [List.getElem?_set_ne hj]; exact h1, h2⟩

/-- how an exception lies in the heap: its class's address, its own dict -/
def RepX (K : PySem.W.Frag) (cl : Cl) (H : Hp) (x : Xc) (c : Value) (dd : Option Addr) : Prop :=
  ∃ C, x.cls ∈ eNames ∧ cl x.cls = some C ∧ c = .ref C ∧ dd = x.dct

section
variable (K : PySem.W.Frag) (cl : Cl) (W : WX)
def cE (H : Hp) (Q : VK) : K3 := fun d m => ∀ v H', Rep K H' d v → Ab K cl H' m → Ext H H' → Q v H'
def cT (H : Hp) (Q : Bool → Hp → Prop) : Bool → Mp → Prop := fun b m => ∀ H', Ab K cl H' m → Ext H H' → Q b H'
def cA (H : Hp) (Q : List V → Hp → Prop) : List D → Mp → Prop := fun ds m => ∀ vs H', Reps K H' ds vs → Ab K cl H' m → Ext H H' → Q vs H'
def cX (H : Hp) (σ : L2.St) : X3 := fun x m => ∀ c dd H', RepX K cl H' x c dd → Ab K cl H' m → Ext H H' → W c dd σ H'
def cS (H : Hp) (N : L2.St → Hp → Prop) : S3 → Mp → Prop := fun s m => ∀ σ H', RepS K H' s σ → Ab K cl H' m → Ext H H' → N σ H'
def cN (H : Hp) (D : Ends) : N3 := ⟨cS K cl H D.nx, cE K cl H D.rt, cS K cl H D.bk, cS K cl H D.ct, fun s x m => ∀ σ c dd H', RepS K H' s σ → RepX K cl H' x c dd → Ab K cl H' m → Ext H H' → W c dd σ H'⟩
def upE (T : TE3) : TE := fun σ H Q => ∃ s m, RepS K H s σ ∧ Ab K cl H m ∧ T s m (cE K cl H Q) (cX K cl W H σ)
def upT (T : TT3) : TT := fun σ H Q => ∃ s m, RepS K H s σ ∧ Ab K cl H m ∧ T s m (cT K cl H Q) (cX K cl W H σ)
def upA (T : TA3) : TA := fun σ H Q => ∃ s m, RepS K H s σ ∧ Ab K cl H m ∧ T s m (cA K cl H Q) (cX K cl W H σ)
def upS (T : TS3) : TS := fun D σ H => ∃ s m, RepS K H s σ ∧ Ab K cl H m ∧ T (cN K cl W H D) s m
end

def MonoE (T : TE3) : Prop := ∀ s m k k' x x', (∀ d m, k d m → k' d m) → (∀ e m, x e m → x' e m) → T s m k x → T s m k' x'
def MonoT (T : TT3) : Prop := ∀ s m k k' x x', (∀ d m, k d m → k' d m) → (∀ e m, x e m → x' e m) → T s m k x → T s m k' x'
def MonoA (T : TA3) : Prop := ∀ s m k k' x x', (∀ d m, k d m → k' d m) → (∀ e m, x e m → x' e m) → T s m k x → T s m k' x'
structure N3.Le (D D' : N3) : Prop where
  nx : ∀ s m, D.nx s m → D'.nx s m
  rt : ∀ d m, D.rt d m → D'.rt d m
  bk : ∀ s m, D.bk s m → D'.bk s m
  ct : ∀ s m, D.ct s m → D'.ct s m
  ex : ∀ s x m, D.ex s x m → D'.ex s x m
def MonoS (T : TS3) : Prop := ∀ s m D D', N3.Le D D' → T D s m → T D' s m
structure QE (X : Cx) (cl : Cl) (W : WX) (e : Expr) (T : TE3) : Prop where
  mono : MonoE T
  run : PE X e (upE X.K cl W T)
structure QT (X : Cx) (cl : Cl) (W : WX) (e : Expr) (T : TT3) : Prop where
  mono : MonoT T
  run : PT X e (upT X.K cl W T)
structure QW (X : Cx) (cl : Cl) (W : WX) (e : Expr) (T : TT3) : Prop where
  mono : MonoT T
  run : PW X e (upT X.K cl W T)
structure QA (X : Cx) (cl : Cl) (W : WX) (es : List Expr) (T : TA3) : Prop where
  mono : MonoA T
  run : PA X es (upA X.K cl W T)
structure QS (X : Cx) (cl : Cl) (W : WX) (st : Stmt) (T : TS3) : Prop where
  mono : MonoS T
  run : PS X st (upS X.K cl W T)
structure QB (X : Cx) (cl : Cl) (W : WX) (st : List Stmt) (T : TS3) : Prop where
  mono : MonoS T
  run : PSs X st (upS X.K cl W T)
theorem PE.imp {X : Cx} {e : Expr} {t t' : TE} (h : PE X e t) (i : ∀ σ H Q, t' σ H Q → t σ H Q) : PE X e t' := ⟨fun pins s σ H Q I q => h.run pins s σ H Q I (i σ H Q q)⟩
theorem PT.imp {X : Cx} {e : Expr} {t t' : TT} (h : PT X e t) (i : ∀ σ H Q, t' σ H Q → t σ H Q) : PT X e t' := ⟨fun pins s σ H Q I q => h.run pins s σ H Q I (i σ H Q q)⟩
theorem PW.imp {X : Cx} {e : Expr} {t t' : TT} (h : PW X e t) (i : ∀ σ H Q, t' σ H Q → t σ H Q) : PW X e t' := ⟨fun w pins s σ H Q I q => h.run w pins s σ H Q I (i σ H Q q)⟩
theorem PA.imp {X : Cx} {es : List Expr} {t t' : TA} (h : PA X es t) (i : ∀ σ H Q, t' σ H Q → t σ H Q) : PA X es t' := ⟨fun p pins s σ H Q I q => h.run p pins s σ H Q I (i σ H Q q)⟩
theorem PS.imp {X : Cx} {st : Stmt} {t t' : TS} (h : PS X st t) (i : ∀ D σ H, t' D σ H → t D σ H) : PS X st t' := ⟨fun pins s σ H D I q => h.run pins s σ H D I (i D σ H q)⟩
theorem PSs.imp {X : Cx} {st : List Stmt} {t t' : TS} (h : PSs X st t) (i : ∀ D σ H, t' D σ H → t D σ H) : PSs X st t' := ⟨fun pins s σ H D I q => h.run pins s σ H D I (i D σ H q)⟩
section
variable {K : PySem.W.Frag} {cl : Cl} {W : WX} {H H1 : Hp} {σ : L2.St}
theorem cX_ext (e : Ext H H1) {x : Xc} {m : Mp} (h : cX K cl W H σ x m) : cX K cl W H1 σ x m := fun c dd H' r a z => h c dd H' r a (e.trans z)
theorem cE_ext (e : Ext H H1) {Q : VK} {d : D} {m : Mp} (h : cE K cl H Q d m) : cE K cl H1 Q d m := fun v H' r a z => h v H' r a (e.trans z)
theorem cT_ext (e : Ext H H1) {Q : Bool → Hp → Prop} {d : Bool} {m : Mp} (h : cT K cl H Q d m) : cT K cl H1 Q d m := fun H' a z => h H' a (e.trans z)
theorem cA_ext (e : Ext H H1) {Q : List V → Hp → Prop} {d : List D} {m : Mp} (h : cA K cl H Q d m) : cA K cl H1 Q d m := fun v H' r a z => h v H' r a (e.trans z)
theorem cS_ext (e : Ext H H1) {N : L2.St → Hp → Prop} {s : S3} {m : Mp} (h : cS K cl H N s m) : cS K cl H1 N s m := fun v H' r a z => h v H' r a (e.trans z)
theorem cN_ext (e : Ext H H1) {D : Ends} : N3.Le (cN K cl W H D) (cN K cl W H1 D) :=
  ⟨fun _ _ h => cS_ext e h, fun _ _ h => cE_ext e h, fun _ _ h => cS_ext e h, fun _ _ h => cS_ext e h, fun s x m h σ c dd H' a b d z => h σ c dd H' a b d (e.trans z)⟩
theorem cE_le {Q : VK} {d : D} {m m' : Mp} (l : Le m m') (h : cE K cl H Q d m) : cE K cl H Q d m' := fun v H' r a z => h v H' r (a.le l) z
theorem cX_le {x : Xc} {m m' : Mp} (l : Le m m') (h : cX K cl W H σ x m) : cX K cl W H σ x m' := fun c dd H' r a z => h c dd H' r (a.le l) z
end
end PV

/-! Expressions. -/
namespace PV
open PySem L2 PyProof.Rows
section
variable {X : Cx} {cl : Cl} {W : WX} {a b c : Expr} {A B C : TE3} {pos : Pos}

/-! ### names, constants -/
def eVar (i : Nat) : TE3 := fun s m k _ => ∃ d, s[i]? = some (some d) ∧ k d m
def eLit (d : D) : TE3 := fun _ m k _ => k d m
theorem q_var {i : Nat} {x : Str} (hN : X.N[i]? = some x) (hv : Vis X.env.scope x) (hd : (x == ("__debug__" : Str)) = false) (hcd : (x == ("__classdict__" : Str)) = false) : QE X cl W (.Name x pos) (eVar i) :=
  ⟨fun s m k k' x x' hk hx ⟨d, h1, h2⟩ => ⟨d, h1, hk _ _ h2⟩,
   PE.imp (pe_var hN hv hd hcd) fun σ H Q ⟨s, m, hs, hm, d, h1, h2⟩ => by
    obtain ⟨v, e, r⟩ := hs.2 _ _ h1
    exact ⟨v, e, h2 v H r hm (Ext.refl H)⟩⟩
theorem mono_lit {d : D} : MonoE (eLit d) := fun s m k k' x x' hk hx h => hk _ _ h
theorem lit_of {e : Expr} {d : D} {v : V} (h : PE X e (tC v)) (r : ∀ H, Rep X.K H d v) : QE X cl W e (eLit d) :=
  ⟨mono_lit, PE.imp h fun σ H Q ⟨s, m, hs, hm, h1⟩ => h1 v H (r H) hm (Ext.refl H)⟩
theorem q_int {i j} : QE X cl W (.Constant (.int i) j pos) (eLit (.int i)) := lit_of pe_int fun _ => rfl
theorem q_bl {i j} : QE X cl W (.Constant (.bool i) j pos) (eLit (.bl i)) := lit_of pe_bl fun _ => rfl
theorem q_non {j} : QE X cl W (.Constant .none j pos) (eLit .non) := lit_of pe_non fun _ => rfl
theorem q_str {i j} : QE X cl W (.Constant (.str i) j pos) (eLit (.str i)) := lit_of pe_str fun _ => rfl
/-- a constant of the module -/
theorem q_glob {x : Str} {d : D} {v : V} {u : Value} (hg : Gl X x) (hm : X.mg x = some u) (r : RelV v u) (q : ∀ H, Rep X.K H d v) (hd : (x == ("__debug__" : Str)) = false) : QE X cl W (.Name x pos) (eLit d) :=
  lit_of (pe_glob hg hm r hd) q

/-! ### two operands -/
def eBin (f : D → D → Mp → K3 → Prop) (A B : TE3) : TE3 := fun s m k x => A s m (fun u m1 => B s m1 (fun v m2 => f u v m2 k) x) x
def MonoF (f : D → D → Mp → K3 → Prop) : Prop := ∀ u v m k k', (∀ d m, k d m → k' d m) → f u v m k → f u v m k'
theorem mono_bin {f : D → D → Mp → K3 → Prop} (hf : MonoF f) (ha : MonoE A) (hb : MonoE B) : MonoE (eBin f A B) := fun s m k k' x x' hk hx h =>
  ha _ _ _ _ _ _ (fun u m1 h1 => hb _ _ _ _ _ _ (fun v m2 h2 => hf _ _ _ _ _ hk h2) hx h1) hx h
theorem two_up {r : R2} {f : D → D → Mp → K3 → Prop} (ma : MonoE A) (mb : MonoE B)
    (hf : ∀ (H : Hp) (m : Mp) (u v : D) (x y : V) (Q : VK), Rep X.K H u x → Rep X.K H v y → Ab X.K cl H m → f u v m (cE X.K cl H Q) → r x y H Q) (mf : MonoF f)
    (σ : L2.St) (H : Hp) (Q : VK) (h : upE X.K cl W (eBin f A B) σ H Q) : tOp r (upE X.K cl W A) (upE X.K cl W B) σ H Q := by
  obtain ⟨s, m, hs, hm, h⟩ := h
  refine ⟨s, m, hs, hm, ma _ _ _ _ _ _ (fun u m1 h1 x H1 rx hm1 e1 => ?_) (fun _ _ z => z) h⟩
  refine ⟨s, m1, hs.mono e1, hm1, mb _ _ _ _ _ _ (fun v m2 h2 y H2 ry hm2 e2 => ?_) (fun _ _ z => cX_ext e1 z) h1⟩
  exact hf H2 m2 u v x y Q (rx.mono e2) ry hm2 (mf _ _ _ _ _ (fun d m z => cE_ext (e1.trans e2) z) h2)
theorem q_bin {op : Operator} {r : R2} {f : D → D → Mp → K3 → Prop} (ho : OpR X (binaryOp op) r)
    (hf : ∀ (H : Hp) (m : Mp) (u v : D) (x y : V) (Q : VK), Rep X.K H u x → Rep X.K H v y → Ab X.K cl H m → f u v m (cE X.K cl H Q) → r x y H Q) (mf : MonoF f)
    (ha : QE X cl W a A) (hb : QE X cl W b B) : QE X cl W (.BinOp a op b pos) (eBin f A B) :=
  ⟨mono_bin mf ha.mono hb.mono, PE.imp (pe_op ho ha.run hb.run) (two_up ha.mono hb.mono hf mf)⟩
theorem q_cmp {op : CmpOp} {r : R2} {f : D → D → Mp → K3 → Prop} (ho : OpR X (compareOp op) r)
    (hf : ∀ (H : Hp) (m : Mp) (u v : D) (x y : V) (Q : VK), Rep X.K H u x → Rep X.K H v y → Ab X.K cl H m → f u v m (cE X.K cl H Q) → r x y H Q) (mf : MonoF f)
    (ha : QE X cl W a A) (hb : QE X cl W b B) (hm : behindInMarks op b = false) : QE X cl W (.Compare a [op] [b] pos) (eBin f A B) :=
  ⟨mono_bin mf ha.mono hb.mono, PE.imp (pe_cmpR ho ha.run hb.run hm) (two_up ha.mono hb.mono hf mf)⟩

/-- + -/
def fAdd : D → D → Mp → K3 → Prop
  | .int i, .int j, m, k => k (.int (i + j)) m
  | .str i, .str j, m, k => i.length + j.length ≤ sizeLine ∧ k (.str (i ++ j)) m
  | .tup i, .tup j, m, k => i.length + j.length ≤ sizeLine ∧ k (.tup (i ++ j)) m
  | .ref p, .ref q, m, k => ∃ l r, m p = some (.lst l) ∧ m q = some (.lst r) ∧ l.length + r.length ≤ sizeLine ∧ ∀ z, m z = none → k (.ref z) (mset m z (.lst (l ++ r)))
  | _, _, _, _ => False
theorem mono_add : MonoF fAdd := fun u v m k k' hk h => by
  unfold fAdd at h ⊢
  split at h <;> first
    | exact hk _ _ h
    | exact ⟨h.1, hk _ _ h.2⟩
    | (obtain ⟨l, r, h1, h2, h3, h4⟩ := h; exact ⟨l, r, h1, h2, h3, fun z hz => hk _ _ (h4 z hz)⟩)
    | exact h.elim
theorem rep_tup {K : PySem.W.Frag} {H : Hp} {p : Addr} {l : List D} {vs : List V} (h : H p = none) (r : Reps K H l vs) : Rep K (upd H p (.tup vs)) (.tup l) (.ref p) := ⟨p, vs, rfl, SqT.of upd_same, r.mono (Ext.new h)⟩
theorem new_lst {K : PySem.W.Frag} {cl : Cl} {H : Hp} {m : Mp} {p : Addr} {l : List D} {vs : List V} (hm : Ab K cl H m) (h : H p = none) (r : Reps K H l vs) : Ab K cl (upd H p (.lst vs)) (mset m p (.lst l)) :=
  hm.new h ⟨vs, upd_same, r.mono (Ext.new h)⟩
theorem put_lst {K : PySem.W.Frag} {cl : Cl} {H : Hp} {m : Mp} {p : Addr} {l : List D} {vs ws : List V} (hm : Ab K cl H m) (h : H p = some (.lst ws)) (r : Reps K H l vs) : Ab K cl (upd H p (.lst vs)) (mset m p (.lst l)) :=
  hm.put (ext_lst h) ⟨vs, upd_same, r.mono (ext_lst h)⟩
theorem Reps.nil_iff {K : PySem.W.Frag} {H : Hp} {l : List D} {vs : List V} (r : Reps K H l vs) : vs = [] ↔ l = [] := by
  have e := r.length
  constructor
  · intro h
    subst h
    exact List.eq_nil_of_length_eq_zero e
  · intro h
    subst h
    exact List.eq_nil_of_length_eq_zero e.symm
theorem q_add (ha : QE X cl W a A) (hb : QE X cl W b B) : QE X cl W (.BinOp a .Add b pos) (eBin fAdd A B) :=
  q_bin (op_add.or (op_add_str.or (op_catA.or op_cat))) (fun H m u v x y Q rx ry hm h => by
    unfold fAdd at h
    split at h
    · rename_i i j
      have rx' : x = .int i := rx
      have ry' : y = .int j := ry
      exact .inl ⟨i, j, rx', ry', h _ _ rfl hm (Ext.refl H)⟩
    · rename_i i j
      have rx' : x = .str i := rx
      have ry' : y = .str j := ry
      exact .inr (.inl ⟨i, j, rx', ry', h.1, h.2 _ _ rfl hm (Ext.refl H)⟩)
    · rename_i i j
      obtain ⟨p, vs, rfl, h1, h2⟩ := rx
      obtain ⟨q, ws, rfl, h3, h4⟩ := ry
      refine .inr (.inr (.inl ⟨p, q, vs, ws, rfl, rfl, h1, h3, by rw [← h2.length, ← h4.length]; exact h.1, fun e => ?_, fun _ e => ?_, fun _ _ z hz => ?_⟩))
      · have e' : i = [] := h2.nil_iff.mp e
        subst e'
        exact h.2 _ _ ⟨q, ws, rfl, h3, h4⟩ hm (Ext.refl H)
      · have e' : j = [] := h4.nil_iff.mp e
        subst e'
        rw [List.append_nil] at h
        exact h.2 _ _ ⟨p, vs, rfl, h1, h2⟩ hm (Ext.refl H)
      · exact h.2 _ _ (rep_tup hz (h2.append h4)) (hm.hid hz) (Ext.new hz)
    · rename_i p q
      have rx' : x = .ref p := rx
      have ry' : y = .ref q := ry
      obtain ⟨l, r, h1, h2, h3, h4⟩ := h
      obtain ⟨vs, e1, r1⟩ := hm.1 p _ h1
      obtain ⟨ws, e2, r2⟩ := hm.1 q _ h2
      refine .inr (.inr (.inr ⟨p, q, vs, ws, rx', ry', e1, e2, by rw [← r1.length, ← r2.length]; exact h3, fun z hz => ?_⟩))
      exact h4 z (hm.free hz) _ _ rfl (new_lst hm hz (r1.append r2)) (Ext.new hz)
    · exact h.elim) mono_add ha hb

/-- on ints, under a condition -/
def fI (C : Int → Int → Prop) (g : Int → Int → D) : D → D → Mp → K3 → Prop := fun u v m k => ∃ i j, u = .int i ∧ v = .int j ∧ C i j ∧ k (g i j) m
theorem mono_fI {C : Int → Int → Prop} {g : Int → Int → D} : MonoF (fI C g) := fun u v m k k' hk ⟨i, j, h1, h2, h3, h4⟩ => ⟨i, j, h1, h2, h3, hk _ _ h4⟩
def CT (_ _ : Int) : Prop := True
theorem up_I {C : Int → Int → Prop} {g : Int → Int → D} {g' : Int → Int → V} (r : ∀ H i j, Rep X.K H (g i j) (g' i j)) (H : Hp) (m : Mp) (u v : D) (x y : V) (Q : VK) (rx : Rep X.K H u x) (ry : Rep X.K H v y) (hm : Ab X.K cl H m)
    (h : fI C g u v m (cE X.K cl H Q)) : rI C g' x y H Q := by
  obtain ⟨i, j, rfl, rfl, h3, h4⟩ := h
  exact ⟨i, j, rx, ry, h3, h4 _ _ (r H i j) hm (Ext.refl H)⟩
theorem up_I0 {g : Int → Int → D} {g' : Int → Int → V} (r : ∀ H i j, Rep X.K H (g i j) (g' i j)) (H : Hp) (m : Mp) (u v : D) (x y : V) (Q : VK) (rx : Rep X.K H u x) (ry : Rep X.K H v y) (hm : Ab X.K cl H m)
    (h : fI CT g u v m (cE X.K cl H Q)) : rI0 g' x y H Q := by
  obtain ⟨i, j, rfl, rfl, h3, h4⟩ := h
  exact ⟨i, j, rx, ry, h4 _ _ (r H i j) hm (Ext.refl H)⟩
abbrev fSub := fI CT fun i j => .int (i - j)
abbrev fMulI := fI CMulW fun i j => .int (i * j)
abbrev fDiv := fI CDivW fun i j => .int (i / j)
abbrev fMod := fI (fun _ j => 0 < j) fun i j => .int (i % j)
abbrev fPow := fI CPow fun i j => .int (i ^ j.toNat)
theorem q_sub (ha : QE X cl W a A) (hb : QE X cl W b B) : QE X cl W (.BinOp a .Sub b pos) (eBin fSub A B) := q_bin op_sub (up_I0 fun _ _ _ => rfl) mono_fI ha hb
theorem q_div (ha : QE X cl W a A) (hb : QE X cl W b B) : QE X cl W (.BinOp a .FloorDiv b pos) (eBin fDiv A B) := q_bin op_fdivW (up_I fun _ _ _ => rfl) mono_fI ha hb
theorem q_mod (ha : QE X cl W a A) (hb : QE X cl W b B) : QE X cl W (.BinOp a .Mod b pos) (eBin fMod A B) := q_bin op_mod (up_I fun _ _ _ => rfl) mono_fI ha hb
theorem q_pow (ha : QE X cl W a A) (hb : QE X cl W b B) : QE X cl W (.BinOp a .Pow b pos) (eBin fPow A B) := q_bin op_pow (up_I fun _ _ _ => rfl) mono_fI ha hb
/-- a text so many times -/
def repS (z : Str) (n : Nat) : Str := ⟨(List.replicate n z.cps.toList).flatten.toArray⟩
theorem rep_foldl (z : Array Nat) : ∀ (n : Nat) (a : Array Nat), ((List.replicate n z).foldl (· ++ ·) a).toList = a.toList ++ (List.replicate n z.toList).flatten
  | 0, a => by simp
  | n + 1, a => by
    rw [List.replicate_succ, List.foldl_cons, rep_foldl z n (a ++ z), List.replicate_succ]
    simp
theorem op_mulS : OpR X (binaryOp .Mult) (fun x y H Q => ∃ (z : Str) (n : Int), x = .str z ∧ y = .int n ∧ -1000 ≤ n ∧ n ≤ 1000 ∧ z.length ≤ 1000 ∧ Q (.str (repS z n.toNat)) H) := by
  rintro pins s σ H x y v u Q I rx ry ⟨z, n, rfl, rfl, h1, h2, h3, q⟩
  obtain ⟨t, rfl⟩ := rx
  obtain ⟨t', rfl⟩ := ry
  have hle : ¬ n < 1 → z.length * n.toNat ≤ 1000 * 1000 := fun h => Nat.mul_le_mul h3 (by omega)
  refine PySem.P.mul_str (by rw [decide_eq_false (by omega), decide_eq_false (by omega)]; rfl) (fun h _ => ?_) (fun h _ => ?_) ?_
  · have : (1000 : Int) ≤ (2 ^ 63 - 1) / n := by
      refine (Int.le_ediv_iff_mul_le (by omega)).mpr ?_
      have : (1000 : Int) * n ≤ 1000 * 1000 := Int.mul_le_mul_of_nonneg_left h2 (by decide)
      omega
    omega
  · have := hle h
    unfold Builtin.Str.tooLong
    refine decide_eq_false ?_
    rw [sizeLine_eq]
    omega
  · have e : ∀ {v : Str}, v = repS z n.toNat → repS z n.toNat = v := fun h => h.symm
    by_cases c1 : n < 1
    · rw [if_pos c1]
      have : n.toNat = 0 := by omega
      rw [this] at q
      exact ⟨by decide, .str Str.empty, H, I.tok _, ⟨_, rfl⟩, q⟩
    · rw [if_neg c1]
      by_cases c2 : (n == 1 || z.length == 0) = true
      · rw [if_pos c2]
        have : repS z n.toNat = z := by
          rcases Bool.or_eq_true _ _ |>.mp c2 with c | c
          · have : n = 1 := by simpa using c
            subst this
            show (⟨([z.cps.toList].flatten).toArray⟩ : Str) = z
            simp
          · have c : z.cps.size = 0 := beq_iff_eq.mp c
            have c : z.cps.toList = [] := List.eq_nil_of_length_eq_zero (by rw [Array.length_toList]; exact c)
            unfold repS
            rw [c]
            have : (List.replicate n.toNat ([] : List Nat)).flatten = [] := by simp
            rw [this]
            cases z with
            | mk cps => simp at c; subst c; rfl
        rw [this] at q
        exact ⟨.str z, H, I, ⟨t, rfl⟩, q⟩
      · rw [if_neg c2]
        have er : (⟨(List.replicate n.toNat z.cps).foldl (· ++ ·) #[]⟩ : Str) = repS z n.toNat := by
          unfold repS
          congr 1
          apply Array.toList_inj.mp
          rw [rep_foldl]; simp
        rw [er]
        refine ⟨?_, .str (repS z n.toNat), H, I.tok _, ⟨_, rfl⟩, q⟩
        show (repS z n.toNat).length ≤ sizeLine
        have : (repS z n.toNat).length = n.toNat * z.length := by
          show ((List.replicate n.toNat z.cps.toList).flatten.toArray).size = _
          simp [Str.length]
        rw [this, Nat.mul_comm]
        have := hle c1
        rw [sizeLine_eq]
        omega
/-- * of two factors of together less than a hundred million bits -/
def CMulX (i j : Int) : Prop := i.natAbs.log2 + j.natAbs.log2 < 100000000
theorem op_mulX {X : Cx} : OpR X (binaryOp .Mult) (rI CMulX fun i j => .int (i * j)) := fun pins s σ H x y v u Q I rx ry ⟨i, j, ex, ey, h, q⟩ =>
  L2.op_mulX pins s σ H x y v u Q I rx ry ⟨i, j, ex, ey, L2.mulx_ok Nat.lt_log2_self Nat.lt_log2_self (by unfold CMulX at h; omega), q⟩
/-- *: ints; a tuple so many times -/
def fMul : D → D → Mp → K3 → Prop
  | .int i, .int j, m, k => CMulX i j ∧ k (.int (i * j)) m
  | .str z, .int n, m, k => -1000 ≤ n ∧ n ≤ 1000 ∧ z.length ≤ 1000 ∧ k (.str (repS z n.toNat)) m
  | .tup l, .int n, m, k => l ≠ [] ∧ 2 ≤ n ∧ n ≤ 1000 ∧ l.length ≤ 1000 ∧ k (.tup (List.replicate n.toNat l).flatten) m
  | .ref p, .int n, m, k => ∃ l, m p = some (.lst l) ∧ 0 ≤ n ∧ n ≤ 1000 ∧ l.length ≤ 1000 ∧ ∀ z, m z = none → k (.ref z) (mset m z (.lst (List.replicate n.toNat l).flatten))
  | _, _, _, _ => False
theorem mono_mul : MonoF fMul := fun u v m k k' hk h => by
  unfold fMul at h ⊢
  split at h <;> first
    | exact ⟨h.1, hk _ _ h.2⟩
    | exact ⟨h.1, h.2.1, h.2.2.1, hk _ _ h.2.2.2⟩
    | exact ⟨h.1, h.2.1, h.2.2.1, h.2.2.2.1, hk _ _ h.2.2.2.2⟩
    | (obtain ⟨l, h1, h2, h3, h4, h5⟩ := h; exact ⟨l, h1, h2, h3, h4, fun z hz => hk _ _ (h5 z hz)⟩)
    | exact h.elim
theorem q_mul (ha : QE X cl W a A) (hb : QE X cl W b B) : QE X cl W (.BinOp a .Mult b pos) (eBin fMul A B) :=
  q_bin ((op_mulX.or (op_repT.or op_rep)).or op_mulS) (fun H m u v x y Q rx ry hm h => by
    unfold fMul at h
    split at h
    · rename_i i j
      have rx' : x = .int i := rx
      have ry' : y = .int j := ry
      exact .inl (.inl ⟨i, j, rx', ry', h.1, h.2 _ _ rfl hm (Ext.refl H)⟩)
    · rename_i z n
      have rx' : x = .str z := rx
      have ry' : y = .int n := ry
      exact .inr ⟨z, n, rx', ry', h.1, h.2.1, h.2.2.1, h.2.2.2 _ _ rfl hm (Ext.refl H)⟩
    · rename_i l n
      obtain ⟨p, vs, rfl, h1, h2⟩ := rx
      have ry' : y = .int n := ry
      obtain ⟨c1, c2, c3, c4, h⟩ := h
      refine .inl (.inr (.inl ⟨p, n, vs, rfl, ry', h1, fun e => c1 (h2.nil_iff.mp e), c2, c3, by rw [← h2.length]; exact c4, fun z hz => ?_⟩))
      exact h _ _ (rep_tup hz (h2.rep _)) (hm.hid hz) (Ext.new hz)
    · rename_i p n
      have rx' : x = .ref p := rx
      have ry' : y = .int n := ry
      obtain ⟨l, c1, c2, c3, c4, h⟩ := h
      obtain ⟨vs, e1, r1⟩ := hm.1 p _ c1
      refine .inl (.inr (.inr ⟨p, n, vs, rx', ry', e1, by omega, by omega, ?_, fun z hz => ?_⟩))
      · rw [← r1.length, sizeLine_eq]
        have : l.length * n.toNat ≤ 1000 * 1000 := Nat.mul_le_mul c4 (by omega)
        omega
      · exact h z (hm.free hz) _ _ rfl (new_lst hm hz (r1.rep _)) (Ext.new hz)
    · exact h.elim) mono_mul ha hb

/-- - -/
def eNeg (A : TE3) : TE3 := fun s m k x => A s m (fun u m1 => ∃ i, u = .int i ∧ k (.int (-i)) m1) x
theorem q_neg (ha : QE X cl W a A) : QE X cl W (.UnaryOp .USub a pos) (eNeg A) :=
  ⟨fun s m k k' x x' hk hx h => ha.mono _ _ _ _ _ _ (fun u m1 ⟨i, h1, h2⟩ => ⟨i, h1, hk _ _ h2⟩) hx h,
   PE.imp (pe_un un_neg ha.run) fun σ H Q ⟨s, m, hs, hm, h⟩ => ⟨s, m, hs, hm, ha.mono _ _ _ _ _ _ (fun u m1 ⟨i, h1, h2⟩ v H' r a e => by
    subst h1
    have r' : v = .int i := r
    exact ⟨i, r', h2 _ _ rfl a e⟩) (fun _ _ z => z) h⟩⟩

/-! ### == of data -/
mutual
/-- d read as data: lists by what they hold now -/
inductive DP (m : Mp) : D → PyData → Prop
  | non : DP m .non .none
  | bl (b : Bool) : DP m (.bl b) (.bool b)
  | int (i : Int) : DP m (.int i) (.int i)
  | str (x : Str) : DP m (.str x) (.str x)
  | lst {a : Addr} {l : List D} {ds : List PyData} : RL m a l → DPs m l ds → DP m (.ref a) (.list ds)
  | tup {l : List D} {ds : List PyData} : DPs m l ds → DP m (.tup l) (.tuple ds)
inductive DPs (m : Mp) : List D → List PyData → Prop
  | nil : DPs m [] []
  | cons {v : D} {vs : List D} {d : PyData} {ds : List PyData} : DP m v d → DPs m vs ds → DPs m (v :: vs) (d :: ds)
end
mutual
theorem DP.dp {m : Mp} {K : PySem.W.Frag} {cl : Cl} {H : Hp} (hm : Ab K cl H m) : ∀ {p : PyData} {d : D} {v : V}, DP m d p → Rep K H d v → Dp K H v p
  | .none, _, _, h, r => by cases h; cases r; exact .non
  | .bool b, _, _, h, r => by cases h; cases r; exact .bl b
  | .int b, _, _, h, r => by cases h; cases r; exact .int b
  | .str b, _, _, h, r => by cases h; cases r; exact .str b
  | .list ds, _, _, h, r => by
    cases h with
    | lst h1 h2 =>
      cases r
      obtain ⟨vs, q1, q2⟩ := hm.rl h1
      exact .lst q1 (DPs.dp hm h2 q2)
  | .tuple ds, _, _, h, r => by
    cases h with
    | tup h2 =>
      obtain ⟨a, vs, rfl, q1, q2⟩ := r
      exact .tup q1 (DPs.dp hm h2 q2)
  | .dict _, _, _, h, _ => by cases h
theorem DPs.dp {m : Mp} {K : PySem.W.Frag} {cl : Cl} {H : Hp} (hm : Ab K cl H m) : ∀ {ps : List PyData} {ds : List D} {vs : List V}, DPs m ds ps → Reps K H ds vs → DpAll K H vs ps
  | [], _, _, h, r => by cases h; cases r; exact .nil
  | p :: ps, _, _, h, r => by
    cases h with
    | cons h1 h2 =>
      obtain ⟨v, vs, rfl, r1, r2⟩ := r
      exact .cons (DP.dp hm h1 r1) (DPs.dp hm h2 r2)
end
mutual
theorem DP.plain {m : Mp} : ∀ {p : PyData} {d : D}, DP m d p → p.plain = true
  | .none, _, _ => rfl
  | .bool b, _, _ => rfl
  | .int b, _, _ => rfl
  | .str b, _, _ => rfl
  | .list ds, _, h => by
    cases h with
    | lst h1 h2 => exact DPs.plain h2
  | .tuple ds, _, h => by
    cases h with
    | tup h2 => exact DPs.plain h2
  | .dict _, _, h => by cases h
theorem DPs.plain {m : Mp} : ∀ {ps : List PyData} {ds : List D}, DPs m ds ps → PyData.plainAll ps = true
  | [], _, _ => rfl
  | p :: ps, _, h => by
    cases h with
    | cons h1 h2 => unfold PyData.plainAll; rw [DP.plain h1, DPs.plain h2]; rfl
end
def PEq (d e : PyData) : Prop := min d.depth e.depth ≤ 64
/-! ### comparisons -/
/-- <, <=, >, >= of ints; < of texts -/
def fLt : D → D → Mp → K3 → Prop
  | .int i, .int j, m, k => k (.bl (decide (i < j))) m
  | .str i, .str j, m, k => k (.bl (decide (i.cps.toList < j.cps.toList))) m
  | u, v, m, k => ∃ d e, DP m u d ∧ DP m v e ∧ PEq d e ∧ PySem.W.alike d e = true ∧ d ≠ .none ∧ k (.bl (PySem.W.dataLt d e)) m
theorem mono_lt : MonoF fLt := fun u v m k k' hk h => by
  unfold fLt at h ⊢
  split at h <;> first | exact hk _ _ h | skip
  · obtain ⟨d, e, a1, a2, a3, a4, a5, a6⟩ := h
    exact ⟨d, e, a1, a2, a3, a4, a5, hk _ _ a6⟩
theorem reads_both {X : Cx} {pins : List (Addr × Obj)} {σ : L2.St} {H : Hp} {s : Shared} {x y : V} {v u : Value} {d e : PyData} (I : Inv X pins σ H s) (hd : Dp X.K H x d) (he : Dp X.K H y e) (rx : RelV x v) (ry : RelV y u) : ∃ as bs, Reads s.heap v d as ∧ Reads s.heap u e bs :=
  have ⟨as, r1⟩ := Dp.reads I _ _ _ hd rx
  have ⟨bs, r2⟩ := Dp.reads I _ _ _ he ry
  ⟨as, bs, r1, r2⟩
def rLtP (K : PySem.W.Frag) : R2 := fun x y H Q => ∃ d e, Dp K H x d ∧ Dp K H y e ∧ PEq d e ∧ PySem.W.alike d e = true ∧ d ≠ .none ∧ Q (.bl (PySem.W.dataLt d e)) H
theorem op_ltP (hu : X.A.units + 64 < cLine) : OpR X (compareOp .Lt) (rLtP X.K) := by
  rintro pins s σ H x y v u Q I rx ry ⟨d, e, hd, he, pe, al, nn, q⟩
  have ⟨as, bs, r1, r2⟩ := reads_both I hd he rx ry
  unfold PEq at pe
  exact PySem.W.lt_data r1 r2 al nn (by omega) ⟨.bl _, H, I, rfl, q⟩
theorem q_lt (hu : X.A.units + 64 < cLine) (ha : QE X cl W a A) (hb : QE X cl W b B) : QE X cl W (.Compare a [.Lt] [b] pos) (eBin fLt A B) :=
  q_cmp ((op_lt.or op_lt_str).or (op_ltP hu)) (fun H m u v x y Q rx ry hm h => by
    unfold fLt at h
    split at h
    · rename_i i j
      exact .inl (.inl ⟨i, j, rx, ry, h _ _ rfl hm (Ext.refl H)⟩)
    · rename_i i j
      exact .inl (.inr ⟨i, j, rx, ry, h _ _ rfl hm (Ext.refl H)⟩)
    · obtain ⟨d, e, h1, h2, h3, h4, h5, h6⟩ := h
      exact .inr ⟨d, e, h1.dp hm rx, h2.dp hm ry, h3, h4, h5, h6 _ _ rfl hm (Ext.refl H)⟩) mono_lt ha hb (nomark _)
abbrev fLe := fI CT fun i j => .bl (decide (i ≤ j))
abbrev fGt := fI CT fun i j => .bl (decide (j < i))
abbrev fGe := fI CT fun i j => .bl (decide (j ≤ i))
theorem q_le (ha : QE X cl W a A) (hb : QE X cl W b B) : QE X cl W (.Compare a [.LtE] [b] pos) (eBin fLe A B) := q_cmp op_le (up_I0 fun _ _ _ => rfl) mono_fI ha hb (nomark _)
theorem q_gt (ha : QE X cl W a A) (hb : QE X cl W b B) : QE X cl W (.Compare a [.Gt] [b] pos) (eBin fGt A B) := q_cmp op_gt (up_I0 fun _ _ _ => rfl) mono_fI ha hb (nomark _)
theorem q_ge (ha : QE X cl W a A) (hb : QE X cl W b B) : QE X cl W (.Compare a [.GtE] [b] pos) (eBin fGe A B) := q_cmp op_ge (up_I0 fun _ _ _ => rfl) mono_fI ha hb (nomark _)
/-- two comparisons of ints in a chain: <= <=, < <, <= < -/
def eChain (p q : Int → Int → Bool) (A B C : TE3) : TE3 := fun s m k x => A s m (fun u m1 => B s m1 (fun v m2 => ∃ i j, u = .int i ∧ v = .int j ∧ if p i j = true then C s m2 (fun w m3 => ∃ l, w = .int l ∧ k (.bl (q j l)) m3) x else k (.bl false) m2) x) x
theorem q_chain {op op' : CmpOp} {p q : Int → Int → Bool} (ho : OpR X (compareOp op) (rI0 fun i j => .bl (p i j))) (ho' : OpR X (compareOp op') (rI0 fun i j => .bl (q i j))) (n1 : op ≠ .In) (n2 : op ≠ .NotIn) (n3 : op' ≠ .In) (n4 : op' ≠ .NotIn)
    (ha : QE X cl W a A) (hb : QE X cl W b B) (hc : QE X cl W c C) : QE X cl W (.Compare a [op, op'] [b, c] pos) (eChain p q A B C) :=
  ⟨fun s m k k' x x' hk hx h => ha.mono _ _ _ _ _ _ (fun u m1 h1 => hb.mono _ _ _ _ _ _ (fun v m2 ⟨i, j, e1, e2, h2⟩ => ⟨i, j, e1, e2, by
      split at h2
      · rename_i z
        rw [if_pos z]
        exact hc.mono _ _ _ _ _ _ (fun w m3 ⟨l, e3, h3⟩ => ⟨l, e3, hk _ _ h3⟩) hx h2
      · rename_i z
        rw [if_neg z]
        exact hk _ _ h2⟩) hx h1) hx h,
   PE.imp (pe_chain ho ho' ha.run hb.run hc.run (show behindInMarks op' c = false from nobehind _ n3 n4)) fun σ H Q ⟨s, m, hs, hm, h⟩ => by
    refine ⟨s, m, hs, hm, ha.mono _ _ _ _ _ _ (fun u m1 h1 x H1 rx hm1 e1 => ?_) (fun _ _ z => z) h⟩
    refine ⟨s, m1, hs.mono e1, hm1, hb.mono _ _ _ _ _ _ (fun v m2 h2 y H2 ry hm2 e2 => ?_) (fun _ _ z => cX_ext e1 z) h1⟩
    obtain ⟨i, j, rfl, rfl, h3⟩ := h2
    refine ⟨i, j, rx, ry, p i j, rfl, ?_⟩
    split at h3
    · rename_i z
      rw [if_pos z]
      refine ⟨s, m2, hs.mono (e1.trans e2), hm2, hc.mono _ _ _ _ _ _ (fun w m3 ⟨l, e3, h4⟩ z H3 rz hm3 e4 => ?_) (fun _ _ z => cX_ext (e1.trans e2) z) h3⟩
      subst e3
      have ry' : y = .int j := ry
      exact ⟨j, l, ry', rz, h4 _ _ rfl hm3 ((e1.trans e2).trans e4)⟩
    · rename_i z
      rw [if_neg z]
      exact h3 _ _ rfl hm2 (e1.trans e2)⟩

/-! ### == -/
def fEq : D → D → Mp → K3 → Prop := fun u v m k => ∃ d e, DP m u d ∧ DP m v e ∧ PEq d e ∧ k (.bl (PyData.eqv d e)) m
def fNe : D → D → Mp → K3 → Prop := fun u v m k => ∃ d e, DP m u d ∧ DP m v e ∧ PEq d e ∧ k (.bl (!PyData.eqv d e)) m
def rEqP (K : PySem.W.Frag) : R2 := fun x y H Q => ∃ d e, Dp K H x d ∧ Dp K H y e ∧ d.plain = true ∧ e.plain = true ∧ PEq d e ∧ Q (.bl (PyData.eqv d e)) H
def rNeP (K : PySem.W.Frag) : R2 := fun x y H Q => ∃ d e, Dp K H x d ∧ Dp K H y e ∧ d.plain = true ∧ e.plain = true ∧ PEq d e ∧ Q (.bl (!PyData.eqv d e)) H
theorem op_eqP (hu : X.A.units + 64 < cLine) : OpR X (compareOp .Eq) (rEqP X.K) := by
  rintro pins s σ H x y v u Q I rx ry ⟨d, e, hd, he, sd, se, pe, q⟩
  have ⟨as, bs, r1, r2⟩ := reads_both I hd he rx ry
  unfold PEq at pe
  exact SeqAt.eq_plain r1 r2 sd se (by omega) ⟨.bl _, H, I, rfl, q⟩
theorem op_neP (hu : X.A.units + 64 < cLine) : OpR X (compareOp .NotEq) (rNeP X.K) := by
  rintro pins s σ H x y v u Q I rx ry ⟨d, e, hd, he, sd, se, pe, q⟩
  have ⟨as, bs, r1, r2⟩ := reads_both I hd he rx ry
  unfold PEq at pe
  exact SeqAt.ne_plain r1 r2 sd se (by omega) ⟨.bl _, H, I, rfl, q⟩
theorem mono_fEq : MonoF fEq := fun u v m k k' hk ⟨d, e, h1, h2, h3, h4⟩ => ⟨d, e, h1, h2, h3, hk _ _ h4⟩
theorem mono_fNe : MonoF fNe := fun u v m k k' hk ⟨d, e, h1, h2, h3, h4⟩ => ⟨d, e, h1, h2, h3, hk _ _ h4⟩
theorem q_eq (hu : X.A.units + 64 < cLine) (ha : QE X cl W a A) (hb : QE X cl W b B) : QE X cl W (.Compare a [.Eq] [b] pos) (eBin fEq A B) :=
  q_cmp (op_eqP hu) (fun H m u v x y Q rx ry hm ⟨d, e, h1, h2, h3, h4⟩ => ⟨d, e, h1.dp hm rx, h2.dp hm ry, h1.plain, h2.plain, h3, h4 _ _ rfl hm (Ext.refl H)⟩) mono_fEq ha hb (nomark _)
theorem q_ne (hu : X.A.units + 64 < cLine) (ha : QE X cl W a A) (hb : QE X cl W b B) : QE X cl W (.Compare a [.NotEq] [b] pos) (eBin fNe A B) :=
  q_cmp (op_neP hu) (fun H m u v x y Q rx ry hm ⟨d, e, h1, h2, h3, h4⟩ => ⟨d, e, h1.dp hm rx, h2.dp hm ry, h1.plain, h2.plain, h3, h4 _ _ rfl hm (Ext.refl H)⟩) mono_fNe ha hb (nomark _)

/-! ### in: a list, a tuple of data; one sign (or any text) in a text -/
def inB (neg : Bool) (b : Bool) : D := .bl (if neg then !b else b)
/-- looked up in a dict: what stands there, if a thing stands -/
def DG (m : Mp) (a : Addr) (y : D) (o : Option D) : Prop := ∃ kvs k, (m a = some (.dK kvs) ∨ m a = some (.rdK kvs)) ∧ y = keyD k ∧ o = getD kvs k
theorem DG.up {K : PySem.W.Frag} {H : Hp} {m : Mp} {a : Addr} {y : D} {v : V} {o : Option D} (g : DG m a y o) (hm : Ab K cl H m) (ry : Rep K H y v) :
    ∃ ov, DGet H a v ov ∧ ((o = none ∧ ov = none) ∨ ∃ d w, o = some d ∧ ov = some w ∧ Rep K H d w) := by
  obtain ⟨kvs, k, h1, rfl, rfl⟩ := g
  have ev := rep_key ry
  subst ev
  rcases h1 with h1 | h1
  · obtain ⟨kws, q1, q2⟩ := hm.1 a _ h1
    refine ⟨_, .inl ⟨kws, k, .inl q1, rfl, rfl⟩, ?_⟩
    rcases q2.val k with ⟨e1, e2⟩ | ⟨d, w, e1, e2, e3⟩
    · exact .inl ⟨e1, e2⟩
    · exact .inr ⟨d, w, e1, e2, e3⟩
  · obtain ⟨ob, kws, q1, q2⟩ := hm.1 a _ h1
    refine ⟨_, .inl ⟨kws, k, .inr ⟨ob, q1⟩, rfl, rfl⟩, ?_⟩
    rcases q2.val k with ⟨e1, e2⟩ | ⟨d, w, e1, e2, e3⟩
    · exact .inl ⟨e1, e2⟩
    · exact .inr ⟨d, w, e1, e2, e3⟩
theorem op_inD (hu : X.A.units + 1 < cLine) : OpR X (compareOp .In) (fun x y H Q => ∃ a o, y = .ref a ∧ DGet H a x o ∧ Q (.bl o.isSome) H) := by
  rintro pins s σ H x y v u Q I rx ry ⟨a, o, rfl, g, q⟩
  cases ry
  exact d_in hu I g rx fun s3 I3 => ⟨.bl o.isSome, H, I3, rfl, q⟩
theorem op_notInD (hu : X.A.units + 1 < cLine) : OpR X (compareOp .NotIn) (fun x y H Q => ∃ a o, y = .ref a ∧ DGet H a x o ∧ Q (.bl (!o.isSome)) H) := by
  rintro pins s σ H x y v u Q I rx ry ⟨a, o, rfl, g, q⟩
  cases ry
  exact d_notIn hu I g rx fun s3 I3 => ⟨.bl (!o.isSome), H, I3, rfl, q⟩
def fIn (neg : Bool) : D → D → Mp → K3 → Prop := fun u v m k =>
  (∃ d l ds, DP m u d ∧ ((∃ p, v = .ref p ∧ RL m p l) ∨ v = .tup l) ∧ DPs m l ds ∧ d.depth ≤ 64 ∧ k (inB neg (ds.any fun y => PyData.eqv y d)) m) ∨
  (∃ i j, u = .str i ∧ v = .str j ∧ k (inB neg (!(Builtin.Str.occurrences j i 0 j.length 1).isEmpty)) m) ∨
  ∃ a o, v = .ref a ∧ DG m a u o ∧ k (inB neg o.isSome) m
theorem mono_fIn {neg : Bool} : MonoF (fIn neg) := fun u v m k k' hk h => by
  rcases h with ⟨d, l, ds, h1, h2, h3, h4, h5⟩ | ⟨i, j, h1, h2, h3⟩ | ⟨a, o, h1, h2, h3⟩
  · exact .inl ⟨d, l, ds, h1, h2, h3, h4, hk _ _ h5⟩
  · exact .inr (.inl ⟨i, j, h1, h2, hk _ _ h3⟩)
  · exact .inr (.inr ⟨a, o, h1, h2, hk _ _ h3⟩)
def rInP (K : PySem.W.Frag) (neg : Bool) : R2 := fun x y H Q => ∃ d e ds, Dp K H x d ∧ Dp K H y e ∧ (e = .list ds ∨ e = .tuple ds) ∧ d.plain = true ∧ PyData.plainAll ds = true ∧ d.depth ≤ 64 ∧ Q (.bl (if neg then !(ds.any fun y => PyData.eqv y d) else ds.any fun y => PyData.eqv y d)) H
theorem op_inP (hu : X.A.units + 64 + 2 < cLine) : OpR X (compareOp .In) (rInP X.K false) := by
  rintro pins s σ H x y v u Q I rx ry ⟨d, e, ds, hd, he, hs, p1, p2, p3, q⟩
  have ⟨as, bs, r1, r2⟩ := reads_both I hd he rx ry
  have z : X.A.units + 1 + min (PyData.depthAll ds) d.depth < cLine := by have : min (PyData.depthAll ds) d.depth ≤ d.depth := Nat.min_le_right _ _; omega
  rcases hs with rfl | rfl
  · exact SeqAt.in_list_data r2 r1 p2 p1 z ⟨.bl _, H, I, rfl, q⟩
  · exact SeqAt.in_tuple_data r2 r1 p2 p1 z ⟨.bl _, H, I, rfl, q⟩
theorem op_notInP (hu : X.A.units + 64 + 2 < cLine) : OpR X (compareOp .NotIn) (rInP X.K true) := by
  rintro pins s σ H x y v u Q I rx ry ⟨d, e, ds, hd, he, hs, p1, p2, p3, q⟩
  have ⟨as, bs, r1, r2⟩ := reads_both I hd he rx ry
  have z : X.A.units + 1 + min (PyData.depthAll ds) d.depth < cLine := by have : min (PyData.depthAll ds) d.depth ≤ d.depth := Nat.min_le_right _ _; omega
  rcases hs with rfl | rfl
  · exact SeqAt.notIn_list_data r2 r1 p2 p1 z ⟨.bl _, H, I, rfl, q⟩
  · exact SeqAt.notIn_tuple_data r2 r1 p2 p1 z ⟨.bl _, H, I, rfl, q⟩
theorem up_in {neg : Bool} {rs rd : R2} (hs : ∀ i j H Q, Q (.bl (if neg then !(!(Builtin.Str.occurrences j i 0 j.length 1).isEmpty) else !(Builtin.Str.occurrences j i 0 j.length 1).isEmpty)) H → rs (.str i) (.str j) H Q)
    (hd : ∀ x a ov H Q, DGet H a x ov → Q (.bl (if neg then !ov.isSome else ov.isSome)) H → rd x (.ref a) H Q) (H : Hp) (m : Mp) (u v : D) (x y : V) (Q : VK) (rx : Rep X.K H u x) (ry : Rep X.K H v y) (hm : Ab X.K cl H m)
    (h : fIn neg u v m (cE X.K cl H Q)) : (rInP X.K neg x y H Q ∨ rs x y H Q) ∨ rd x y H Q := by
  rcases h with ⟨d, l, ds, h1, h2, h3, h4, h5⟩ | ⟨i, j, rfl, rfl, h3⟩ | ⟨a, o, rfl, h2, h3⟩
  · refine .inl (.inl ?_)
    rcases h2 with ⟨p, rfl, h2⟩ | rfl
    · exact ⟨d, _, ds, h1.dp hm rx, (DP.lst h2 h3).dp hm ry, .inl rfl, h1.plain, h3.plain, h4, h5 _ _ rfl hm (Ext.refl H)⟩
    · exact ⟨d, _, ds, h1.dp hm rx, (DP.tup h3).dp hm ry, .inr rfl, h1.plain, h3.plain, h4, h5 _ _ rfl hm (Ext.refl H)⟩
  · have rx' : x = .str i := rx
    have ry' : y = .str j := ry
    subst rx' ry'
    exact .inl (.inr (hs i j H Q (h3 _ _ rfl hm (Ext.refl H))))
  · have ry' : y = .ref a := ry
    subst ry'
    obtain ⟨ov, g, e⟩ := h2.up hm rx
    refine .inr (hd _ _ ov H Q g ?_)
    have := h3 _ _ rfl hm (Ext.refl H)
    rcases e with ⟨rfl, rfl⟩ | ⟨d, w, rfl, rfl, _⟩ <;> exact this
theorem q_in (hu : X.A.units + 64 + 2 < cLine) (ha : QE X cl W a A) (hb : QE X cl W b B) (hm : behindInMarks .In b = false) : QE X cl W (.Compare a [.In] [b] pos) (eBin (fIn false) A B) :=
  q_cmp (((op_inP hu).or op_in_str).or (op_inD (by omega))) (up_in (fun i j H Q q => ⟨i, j, rfl, rfl, q⟩) fun x a ov H Q g q => ⟨a, ov, rfl, g, q⟩) mono_fIn ha hb hm
theorem q_notin (hu : X.A.units + 64 + 2 < cLine) (ha : QE X cl W a A) (hb : QE X cl W b B) (hm : behindInMarks .NotIn b = false) : QE X cl W (.Compare a [.NotIn] [b] pos) (eBin (fIn true) A B) :=
  q_cmp (((op_notInP hu).or op_notin_str).or (op_notInD (by omega))) (up_in (fun i j H Q q => ⟨i, j, rfl, rfl, q⟩) fun x a ov H Q g q => ⟨a, ov, rfl, g, q⟩) mono_fIn ha hb hm

/-! ### is None; is True -/
def isD (u v : D) : Option Bool := match u, v with
  | .non, .non => some true
  | .bl i, .bl j => some (decide (i = j))
  | _, .non => some false
  | _, _ => none
def fIs (neg : Bool) : D → D → Mp → K3 → Prop := fun u v m k => ∃ b, isD u v = some b ∧ k (inB neg b) m
theorem mono_fIs {neg : Bool} : MonoF (fIs neg) := fun u v m k k' hk ⟨b, h1, h2⟩ => ⟨b, h1, hk _ _ h2⟩
theorem rep_non {K : PySem.W.Frag} {H : Hp} {d : D} {v : V} (r : Rep K H d v) : v = .non ↔ d = .non := by
  constructor
  · intro e
    subst e
    cases d with
    | non => rfl
    | tup l => obtain ⟨a, vs, q, _⟩ := r; cases q
    | _ => exact absurd r (by intro z; cases z)
  · intro e; subst e; exact r
theorem up_is {neg : Bool} {r1 r2 : R2} (h1 : ∀ x H Q, Q (.bl (if neg then !decide (x = V.non) else decide (x = V.non))) H → r1 x .non H Q) (h2 : ∀ a b H Q, Q (.bl (if neg then !decide (a = b) else decide (a = b))) H → r2 (.bl a) (.bl b) H Q)
    (H : Hp) (m : Mp) (u v : D) (x y : V) (Q : VK) (rx : Rep X.K H u x) (ry : Rep X.K H v y) (hm : Ab X.K cl H m) (h : fIs neg u v m (cE X.K cl H Q)) : r1 x y H Q ∨ r2 x y H Q := by
  obtain ⟨b, e, h⟩ := h
  by_cases hv : v = .non
  · subst hv
    have ry' : y = .non := ry
    subst ry'
    refine .inl (h1 x H Q ?_)
    have q : b = decide (x = V.non) := by
      cases u <;> simp only [isD, Option.some.injEq] at e <;> subst e <;> symm
      case non => have rx' : x = .non := rx; subst rx'; rfl
      all_goals
        rw [decide_eq_false_iff_not]
        intro z
        have := (rep_non rx).mp z
        cases this
    have := h _ _ rfl hm (Ext.refl H)
    rw [q] at this
    exact this
  · cases u <;> cases v <;> simp only [isD] at e <;> first | exact absurd rfl hv | cases e
    rename_i i j
    have rx' : x = .bl i := rx
    have ry' : y = .bl j := ry
    subst rx' ry'
    exact .inr (h2 i j H Q (h _ _ rfl hm (Ext.refl H)))
theorem q_is (ha : QE X cl W a A) (hb : QE X cl W b B) : QE X cl W (.Compare a [.Is] [b] pos) (eBin (fIs false) A B) :=
  q_cmp (op_isN.or op_isBl) (up_is (fun x H Q q => ⟨rfl, q⟩) fun a b H Q q => ⟨a, b, rfl, rfl, q⟩) mono_fIs ha hb (nomark _)
theorem q_isnot (ha : QE X cl W a A) (hb : QE X cl W b B) : QE X cl W (.Compare a [.IsNot] [b] pos) (eBin (fIs true) A B) :=
  q_cmp (op_notN.or op_notBl) (up_is (fun x H Q q => ⟨rfl, q⟩) fun a b H Q q => ⟨a, b, rfl, rfl, q⟩) mono_fIs ha hb (nomark _)
end
end PV

/-! Tests, displays, subscripts, calls. -/
namespace PV
open PySem L2 PyProof.Rows
section
variable {X : Cx} {cl : Cl} {W : WX} {a b c : Expr} {A B C : TE3} {TA TB : TT3} {rest : List Expr} {pos : Pos}

/-! ### tests -/
def tBv (T : TE3) : TT3 := fun s m k x => T s m (fun d m1 => ∃ b, d = .bl b ∧ k b m1) x
theorem mono_tBv (h : MonoE A) : MonoT (tBv A) := fun s m k k' x x' hk hx q => h _ _ _ _ _ _ (fun d m ⟨b, e, z⟩ => ⟨b, e, hk _ _ z⟩) hx q
theorem upT_tBv (h : MonoE A) (σ : L2.St) (H : Hp) (Q : Bool → Hp → Prop) (q : upT X.K cl W (tBv A) σ H Q) : upE X.K cl W A σ H fun x H' => ∃ k, x = .bl k ∧ Q k H' := by
  obtain ⟨s, m, hs, hm, q⟩ := q
  exact ⟨s, m, hs, hm, h _ _ _ _ _ _ (fun d m ⟨b, e, z⟩ v H' r a e' => ⟨b, by subst e; exact r, z H' a e'⟩) (fun _ _ z => z) q⟩
theorem t_cmp {op : CmpOp} {r : R2} {f : D → D → Mp → K3 → Prop} (ho : OpR X (compareOp op) r)
    (hf : ∀ (H : Hp) (m : Mp) (u v : D) (x y : V) (Q : VK), Rep X.K H u x → Rep X.K H v y → Ab X.K cl H m → f u v m (cE X.K cl H Q) → r x y H Q) (mf : MonoF f)
    (ha : QE X cl W a A) (hb : QE X cl W b B) (hm : behindInMarks op b = false) : QT X cl W (.Compare a [op] [b] pos) (tBv (eBin f A B)) :=
  ⟨mono_tBv (mono_bin mf ha.mono hb.mono), PT.imp (pt_cmpR ho ha.run hb.run hm) fun σ H Q q => two_up ha.mono hb.mono hf mf σ H _ (upT_tBv (mono_bin mf ha.mono hb.mono) σ H Q q)⟩
theorem t_lt (hu : X.A.units + 64 < cLine) (ha : QE X cl W a A) (hb : QE X cl W b B) : QT X cl W (.Compare a [.Lt] [b] pos) (tBv (eBin fLt A B)) :=
  t_cmp ((op_lt.or op_lt_str).or (op_ltP hu)) (fun H m u v x y Q rx ry hm h => by
    unfold fLt at h
    split at h
    · rename_i i j
      exact .inl (.inl ⟨i, j, rx, ry, h _ _ rfl hm (Ext.refl H)⟩)
    · rename_i i j
      exact .inl (.inr ⟨i, j, rx, ry, h _ _ rfl hm (Ext.refl H)⟩)
    · obtain ⟨d, e, h1, h2, h3, h4, h5, h6⟩ := h
      exact .inr ⟨d, e, h1.dp hm rx, h2.dp hm ry, h3, h4, h5, h6 _ _ rfl hm (Ext.refl H)⟩) mono_lt ha hb (nomark _)
theorem t_le (ha : QE X cl W a A) (hb : QE X cl W b B) : QT X cl W (.Compare a [.LtE] [b] pos) (tBv (eBin fLe A B)) := t_cmp op_le (up_I0 fun _ _ _ => rfl) mono_fI ha hb (nomark _)
theorem t_gt (ha : QE X cl W a A) (hb : QE X cl W b B) : QT X cl W (.Compare a [.Gt] [b] pos) (tBv (eBin fGt A B)) := t_cmp op_gt (up_I0 fun _ _ _ => rfl) mono_fI ha hb (nomark _)
theorem t_ge (ha : QE X cl W a A) (hb : QE X cl W b B) : QT X cl W (.Compare a [.GtE] [b] pos) (tBv (eBin fGe A B)) := t_cmp op_ge (up_I0 fun _ _ _ => rfl) mono_fI ha hb (nomark _)
theorem t_eq (hu : X.A.units + 64 < cLine) (ha : QE X cl W a A) (hb : QE X cl W b B) : QT X cl W (.Compare a [.Eq] [b] pos) (tBv (eBin fEq A B)) :=
  t_cmp (op_eqP hu) (fun H m u v x y Q rx ry hm ⟨d, e, h1, h2, h3, h4⟩ => ⟨d, e, h1.dp hm rx, h2.dp hm ry, h1.plain, h2.plain, h3, h4 _ _ rfl hm (Ext.refl H)⟩) mono_fEq ha hb (nomark _)
theorem t_ne (hu : X.A.units + 64 < cLine) (ha : QE X cl W a A) (hb : QE X cl W b B) : QT X cl W (.Compare a [.NotEq] [b] pos) (tBv (eBin fNe A B)) :=
  t_cmp (op_neP hu) (fun H m u v x y Q rx ry hm ⟨d, e, h1, h2, h3, h4⟩ => ⟨d, e, h1.dp hm rx, h2.dp hm ry, h1.plain, h2.plain, h3, h4 _ _ rfl hm (Ext.refl H)⟩) mono_fNe ha hb (nomark _)
theorem t_in (hu : X.A.units + 64 + 2 < cLine) (ha : QE X cl W a A) (hb : QE X cl W b B) (hm : behindInMarks .In b = false) : QT X cl W (.Compare a [.In] [b] pos) (tBv (eBin (fIn false) A B)) :=
  t_cmp (((op_inP hu).or op_in_str).or (op_inD (by omega))) (up_in (fun i j H Q q => ⟨i, j, rfl, rfl, q⟩) fun x a ov H Q g q => ⟨a, ov, rfl, g, q⟩) mono_fIn ha hb hm
theorem t_notin (hu : X.A.units + 64 + 2 < cLine) (ha : QE X cl W a A) (hb : QE X cl W b B) (hm : behindInMarks .NotIn b = false) : QT X cl W (.Compare a [.NotIn] [b] pos) (tBv (eBin (fIn true) A B)) :=
  t_cmp (((op_notInP hu).or op_notin_str).or (op_notInD (by omega))) (up_in (fun i j H Q q => ⟨i, j, rfl, rfl, q⟩) fun x a ov H Q g q => ⟨a, ov, rfl, g, q⟩) mono_fIn ha hb hm
theorem t_is (ha : QE X cl W a A) (hb : QE X cl W b B) : QT X cl W (.Compare a [.Is] [b] pos) (tBv (eBin (fIs false) A B)) :=
  t_cmp (op_isN.or op_isBl) (up_is (fun x H Q q => ⟨rfl, q⟩) fun a b H Q q => ⟨a, b, rfl, rfl, q⟩) mono_fIs ha hb (nomark _)
theorem t_isnot (ha : QE X cl W a A) (hb : QE X cl W b B) : QT X cl W (.Compare a [.IsNot] [b] pos) (tBv (eBin (fIs true) A B)) :=
  t_cmp (op_notN.or op_notBl) (up_is (fun x H Q q => ⟨rfl, q⟩) fun a b H Q q => ⟨a, b, rfl, rfl, q⟩) mono_fIs ha hb (nomark _)
/-- truth -/
def TruD (m : Mp) : D → Bool → Prop
  | .non, k => k = false
  | .bl b, k => k = b
  | .int i, k => k = (i != 0)
  | .str y, k => y.length ≤ sizeLine ∧ k = ((y.length : Int) != 0)
  | .tup l, k => k = !l.isEmpty
  | .ref p, k => (∃ l, RL m p l ∧ k = !l.isEmpty) ∨ ∃ kvs, m p = some (.dK kvs) ∧ k = !kvs.isEmpty
  | .ty _, _ => False
theorem Reps.empty {K : PySem.W.Frag} {H : Hp} {l : List D} {vs : List V} (r : Reps K H l vs) : vs.isEmpty = l.isEmpty := by
  have e := r.length
  cases vs <;> cases l <;> first | rfl | cases e
theorem TruD.up {m : Mp} {d : D} {v : V} {k : Bool} {H : Hp} (h : TruD m d k) (r : Rep X.K H d v) (hm : Ab X.K cl H m) : TruV X.K v H k := by
  cases d with
  | non => cases r; exact h
  | bl b => cases r; exact h
  | int i => cases r; exact h
  | str y => cases r; exact h
  | tup l =>
    obtain ⟨p, vs, rfl, h1, h2⟩ := r
    exact .inr (.inl ⟨vs, h1, by rw [h2.empty]; exact h⟩)
  | ref p =>
    cases r
    rcases h with ⟨l, h1, h2⟩ | ⟨kvs, h1, h2⟩
    · obtain ⟨vs, q1, q2⟩ := hm.rl h1
      exact .inl ⟨vs, q1, by rw [q2.empty]; exact h2⟩
    · obtain ⟨kws, q1, q2⟩ := hm.1 p _ h1
      refine .inr (.inr ⟨kws, q1, ?_⟩)
      rw [h2]
      cases kvs with
      | nil => cases q2; rfl
      | cons kv kvs => obtain ⟨k, d⟩ := kv; obtain ⟨v, r', e, _⟩ := q2; subst e; rfl
  | ty n => exact h.elim
def tTru (T : TE3) : TT3 := fun s m k x => T s m (fun d m1 => ∃ b, TruD m1 d b ∧ k b m1) x
theorem t_tru (ha : QE X cl W a A) (he : ∀ whole, isTrue a X.env whole = (do let v ← whole; standAt a.pos; holding [v] (truthy v))) : QT X cl W a (tTru A) :=
  ⟨fun s m k k' x x' hk hx q => ha.mono _ _ _ _ _ _ (fun d m ⟨b, e, z⟩ => ⟨b, e, hk _ _ z⟩) hx q,
   PT.imp (pt_truth ha.run he) fun σ H Q ⟨s, m, hs, hm, q⟩ => ⟨s, m, hs, hm, ha.mono _ _ _ _ _ _ (fun d m ⟨b, e, z⟩ v H' r a e' => ⟨b, e.up r a, z H' a e'⟩) (fun _ _ z => z) q⟩⟩

/-! ### and, or, not as tests -/
def tAnd3 (t u : TT3) : TT3 := fun s m k x => t s m (fun c m1 => if c = true then u s m1 k x else k false m1) x
def tOr3 (t u : TT3) : TT3 := fun s m k x => t s m (fun c m1 => if c = true then k true m1 else u s m1 k x) x
def tNot3 (t : TT3) : TT3 := fun s m k x => t s m (fun c m1 => k (!c) m1) x
theorem mono_and3 (ha : MonoT TA) (hb : MonoT TB) : MonoT (tAnd3 TA TB) := fun s m k k' x x' hk hx q => ha _ _ _ _ _ _ (fun c m1 z => by
  cases c with
  | true => exact hb _ _ _ _ _ _ hk hx z
  | false => exact hk _ _ z) hx q
theorem mono_or3 (ha : MonoT TA) (hb : MonoT TB) : MonoT (tOr3 TA TB) := fun s m k k' x x' hk hx q => ha _ _ _ _ _ _ (fun c m1 z => by
  cases c with
  | true => exact hk _ _ z
  | false => exact hb _ _ _ _ _ _ hk hx z) hx q
theorem w_and1 (ha : QT X cl W a TA) : QW X cl W (.BoolOp .And [a] pos) TA := ⟨ha.mono, pw_and1 ha.run⟩
theorem w_or1 (ha : QT X cl W a TA) : QW X cl W (.BoolOp .Or [a] pos) TA := ⟨ha.mono, pw_or1 ha.run⟩
theorem w_and (ha : QT X cl W a TA) (hb : QW X cl W (.BoolOp .And (b :: rest) pos) TB) : QW X cl W (.BoolOp .And (a :: b :: rest) pos) (tAnd3 TA TB) :=
  ⟨mono_and3 ha.mono hb.mono, PW.imp (pw_and ha.run hb.run) fun σ H Q ⟨s, m, hs, hm, q⟩ => ⟨s, m, hs, hm, ha.mono _ _ _ _ _ _ (fun c m1 z H1 hm1 e1 => by
    cases c with
    | true => exact ⟨s, m1, hs.mono e1, hm1, hb.mono _ _ _ _ _ _ (fun d m2 w => cT_ext e1 w) (fun _ _ w => cX_ext e1 w) z⟩
    | false => exact z H1 hm1 e1) (fun _ _ z => z) q⟩⟩
theorem w_or (ha : QT X cl W a TA) (hb : QW X cl W (.BoolOp .Or (b :: rest) pos) TB) : QW X cl W (.BoolOp .Or (a :: b :: rest) pos) (tOr3 TA TB) :=
  ⟨mono_or3 ha.mono hb.mono, PW.imp (pw_or ha.run hb.run) fun σ H Q ⟨s, m, hs, hm, q⟩ => ⟨s, m, hs, hm, ha.mono _ _ _ _ _ _ (fun c m1 z H1 hm1 e1 => by
    cases c with
    | true => exact z H1 hm1 e1
    | false => exact ⟨s, m1, hs.mono e1, hm1, hb.mono _ _ _ _ _ _ (fun d m2 w => cT_ext e1 w) (fun _ _ w => cX_ext e1 w) z⟩) (fun _ _ z => z) q⟩⟩
theorem t_w (h : QW X cl W a TA) : QT X cl W a TA := ⟨h.mono, h.run.pt⟩
theorem t_not (ha : QT X cl W a TA) : QT X cl W (.UnaryOp .Not a pos) (tNot3 TA) :=
  ⟨fun s m k k' x x' hk hx q => ha.mono _ _ _ _ _ _ (fun c m1 z => hk _ _ z) hx q,
   PT.imp (pt_not ha.run) fun σ H Q ⟨s, m, hs, hm, q⟩ => ⟨s, m, hs, hm, ha.mono _ _ _ _ _ _ (fun c m1 z H1 hm1 e1 => z H1 hm1 e1) (fun _ _ z => z) q⟩⟩

/-! ### .. as values -/
def eAnd (A B : TE3) : TE3 := fun s m k x => A s m (fun d m1 => ∃ c, d = .bl c ∧ if c = true then B s m1 k x else k (.bl false) m1) x
def eOr (A B : TE3) : TE3 := fun s m k x => A s m (fun d m1 => ∃ c, d = .bl c ∧ if c = true then k (.bl true) m1 else B s m1 k x) x
def eNot (A : TE3) : TE3 := fun s m k x => A s m (fun d m1 => ∃ c, d = .bl c ∧ k (.bl (!c)) m1) x
theorem q_one {op} (h : QE X cl W a A) : QE X cl W (.BoolOp op [a] pos) A := ⟨h.mono, pe_one h.run⟩
theorem q_and (ha : QE X cl W a A) (hb : QE X cl W (.BoolOp .And (b :: rest) pos) B) : QE X cl W (.BoolOp .And (a :: b :: rest) pos) (eAnd A B) :=
  ⟨fun s m k k' x x' hk hx q => ha.mono _ _ _ _ _ _ (fun d m1 ⟨c, e, z⟩ => ⟨c, e, by
      cases c with
      | true => exact hb.mono _ _ _ _ _ _ hk hx z
      | false => exact hk _ _ z⟩) hx q,
   PE.imp (pe_and ha.run hb.run) fun σ H Q ⟨s, m, hs, hm, q⟩ => ⟨s, m, hs, hm, ha.mono _ _ _ _ _ _ (fun d m1 ⟨c, e, z⟩ v H1 r hm1 e1 => ⟨c, by subst e; exact r, by
    cases c with
    | true => exact ⟨s, m1, hs.mono e1, hm1, hb.mono _ _ _ _ _ _ (fun d m2 w => cE_ext e1 w) (fun _ _ w => cX_ext e1 w) z⟩
    | false => exact z _ H1 rfl hm1 e1⟩) (fun _ _ z => z) q⟩⟩
theorem q_or (ha : QE X cl W a A) (hb : QE X cl W (.BoolOp .Or (b :: rest) pos) B) : QE X cl W (.BoolOp .Or (a :: b :: rest) pos) (eOr A B) :=
  ⟨fun s m k k' x x' hk hx q => ha.mono _ _ _ _ _ _ (fun d m1 ⟨c, e, z⟩ => ⟨c, e, by
      cases c with
      | true => exact hk _ _ z
      | false => exact hb.mono _ _ _ _ _ _ hk hx z⟩) hx q,
   PE.imp (pe_or ha.run hb.run) fun σ H Q ⟨s, m, hs, hm, q⟩ => ⟨s, m, hs, hm, ha.mono _ _ _ _ _ _ (fun d m1 ⟨c, e, z⟩ v H1 r hm1 e1 => ⟨c, by subst e; exact r, by
    cases c with
    | true => exact z _ H1 rfl hm1 e1
    | false => exact ⟨s, m1, hs.mono e1, hm1, hb.mono _ _ _ _ _ _ (fun d m2 w => cE_ext e1 w) (fun _ _ w => cX_ext e1 w) z⟩⟩) (fun _ _ z => z) q⟩⟩
theorem q_not (ha : QE X cl W a A) : QE X cl W (.UnaryOp .Not a pos) (eNot A) :=
  ⟨fun s m k k' x x' hk hx q => ha.mono _ _ _ _ _ _ (fun d m1 ⟨c, e, z⟩ => ⟨c, e, hk _ _ z⟩) hx q,
   PE.imp (pe_not ha.run) fun σ H Q ⟨s, m, hs, hm, q⟩ => ⟨s, m, hs, hm, ha.mono _ _ _ _ _ _ (fun d m1 ⟨c, e, z⟩ v H1 r hm1 e1 => ⟨c, by subst e; exact r, z _ H1 rfl hm1 e1⟩) (fun _ _ z => z) q⟩⟩
def eIf (t : TT3) (A B : TE3) : TE3 := fun s m k x => t s m (fun c m1 => if c = true then A s m1 k x else B s m1 k x) x
theorem q_if (ht : QT X cl W c TA) (ha : QE X cl W a A) (hb : QE X cl W b B) : QE X cl W (.IfExp c a b pos) (eIf TA A B) :=
  ⟨fun s m k k' x x' hk hx q => ht.mono _ _ _ _ _ _ (fun c m1 z => by
      cases c with
      | true => exact ha.mono _ _ _ _ _ _ hk hx z
      | false => exact hb.mono _ _ _ _ _ _ hk hx z) hx q,
   PE.imp (pe_ifExp ht.run ha.run hb.run) fun σ H Q ⟨s, m, hs, hm, q⟩ => ⟨s, m, hs, hm, ht.mono _ _ _ _ _ _ (fun c m1 z H1 hm1 e1 => by
    cases c with
    | true => exact ⟨s, m1, hs.mono e1, hm1, ha.mono _ _ _ _ _ _ (fun d m2 w => cE_ext e1 w) (fun _ _ w => cX_ext e1 w) z⟩
    | false => exact ⟨s, m1, hs.mono e1, hm1, hb.mono _ _ _ _ _ _ (fun d m2 w => cE_ext e1 w) (fun _ _ w => cX_ext e1 w) z⟩) (fun _ _ z => z) q⟩⟩

/-! ### lists of expressions; displays -/
def aNil : TA3 := fun _ m k _ => k [] m
def aCons (A : TE3) (R : TA3) : TA3 := fun s m k x => A s m (fun d m1 => R s m1 (fun ds m2 => k (d :: ds) m2) x) x
theorem qa_nil : QA X cl W [] aNil := ⟨fun s m k k' x x' hk hx q => hk _ _ q, PA.imp pa_nil fun σ H Q ⟨s, m, hs, hm, q⟩ => q _ H rfl hm (Ext.refl H)⟩
theorem qa_cons {R : TA3} (ha : QE X cl W a A) (hr : QA X cl W rest R) (hs : starEach (a :: rest) X.env = (false, eval a X.env) :: starEach rest X.env) : QA X cl W (a :: rest) (aCons A R) :=
  ⟨fun s m k k' x x' hk hx q => ha.mono _ _ _ _ _ _ (fun d m1 z => hr.mono _ _ _ _ _ _ (fun ds m2 w => hk _ _ w) hx z) hx q,
   PA.imp (pa_cons ha.run hr.run hs) fun σ H Q ⟨s, m, hs, hm, q⟩ => ⟨s, m, hs, hm, ha.mono _ _ _ _ _ _ (fun d m1 z v H1 r1 hm1 e1 =>
    ⟨s, m1, hs.mono e1, hm1, hr.mono _ _ _ _ _ _ (fun ds m2 w vs H2 r2 hm2 e2 => w _ _ (Reps.cons (r1.mono e2) r2) hm2 (e1.trans e2)) (fun _ _ w => cX_ext e1 w) z⟩) (fun _ _ z => z) q⟩⟩
variable {R : TA3}
def eTup (R : TA3) : TE3 := fun s m k x => R s m (fun ds m1 => ds.length ≤ sizeLine ∧ k (.tup ds) m1) x
def eLst (R : TA3) : TE3 := fun s m k x => R s m (fun ds m1 => ds.length ≤ sizeLine ∧ ∀ p, m1 p = none → k (.ref p) (mset m1 p (.lst ds))) x
theorem q_tup {j} (hr : QA X cl W rest R) : QE X cl W (.Tuple rest j pos) (eTup R) :=
  ⟨fun s m k k' x x' hk hx q => hr.mono _ _ _ _ _ _ (fun ds m1 z => ⟨z.1, hk _ _ z.2⟩) hx q,
   PE.imp (pe_tup hr.run) fun σ H Q ⟨s, m, hs, hm, q⟩ => ⟨s, m, hs, hm, hr.mono _ _ _ _ _ _ (fun ds m1 z vs H1 r hm1 e1 => ⟨by rw [← r.length]; exact z.1, fun p hp =>
    z.2 _ _ (rep_tup hp r) (hm1.hid hp) (e1.trans (Ext.new hp))⟩) (fun _ _ z => z) q⟩⟩
theorem q_lst (hr : QA X cl W rest R) : QE X cl W (.List rest pos) (eLst R) :=
  ⟨fun s m k k' x x' hk hx q => hr.mono _ _ _ _ _ _ (fun ds m1 z => ⟨z.1, fun p hp => hk _ _ (z.2 p hp)⟩) hx q,
   PE.imp (pe_lst hr.run) fun σ H Q ⟨s, m, hs, hm, q⟩ => ⟨s, m, hs, hm, hr.mono _ _ _ _ _ _ (fun ds m1 z vs H1 r hm1 e1 => ⟨by rw [← r.length]; exact z.1, fun p hp =>
    z.2 p (hm1.free hp) _ _ rfl (new_lst hm1 hp r) (e1.trans (Ext.new hp))⟩) (fun _ _ z => z) q⟩⟩
def eDic : TE3 := fun _ m k _ => ∀ p, m p = none → k (.ref p) (mset m p (.dK []))
theorem q_dic : QE X cl W (.Dict [] [] pos) eDic :=
  ⟨fun s m k k' x x' hk hx q p hp => hk _ _ (q p hp),
   PE.imp pe_dnewK fun σ H Q ⟨s, m, hs, hm, q⟩ p hp => q p (hm.free hp) _ _ rfl (hm.new hp ⟨[], upd_same, rfl⟩) (Ext.new hp)⟩

/-! ### subscripts -/
def fIx : D → D → Mp → K3 → Prop
  | .ref p, y, m, k => (∃ i l d, y = .int i ∧ RL m p l ∧ atI l i = some d ∧ k d m) ∨ ∃ d, DG m p y (some d) ∧ k d m
  | .tup l, .int i, m, k => ∃ d, atI l i = some d ∧ k d m
  | .str z, .int i, m, k => z.length ≤ sizeLine ∧ ∃ c, atI z.cps.toList i = some c ∧ k (.str ⟨#[c]⟩) m
  | _, _, _, _ => False
theorem mono_ix : MonoF fIx := fun u v m k k' hk h => by
  unfold fIx at h ⊢
  split at h <;> first
    | (rcases h with ⟨i, l, d, h0, h1, h2, h3⟩ | ⟨d, h1, h2⟩
       · exact .inl ⟨i, l, d, h0, h1, h2, hk _ _ h3⟩
       · exact .inr ⟨d, h1, hk _ _ h2⟩)
    | (obtain ⟨h0, c, h1, h2⟩ := h; exact ⟨h0, c, h1, hk _ _ h2⟩)
    | (obtain ⟨d, h1, h2⟩ := h; exact ⟨d, h1, hk _ _ h2⟩)
    | exact h.elim
theorem Reps.atI {K : PySem.W.Frag} {H : Hp} {l : List D} {vs : List V} {i : Int} {d : D} (r : Reps K H l vs) (h : L2.atI l i = some d) : ∃ v, L2.atI vs i = some v ∧ Rep K H d v := by
  unfold L2.atI at h ⊢
  rw [r.length] at h
  cases e : ixN vs.length i with
  | none => rw [e] at h; cases h
  | some j => rw [e] at h; exact r.get (by simpa using h)
def rIxDk : R2 := fun x y H Q => ∃ a v, x = .ref a ∧ DGet H a y (some v) ∧ Q v H
theorem ix_dict (hu : X.A.units + 1 < cLine) : IxR X rIxDk := by
  rintro value slice pins s σ H x y v u Q I rx ry ⟨a, w, rfl, g, q⟩ hs
  cases rx
  exact tail_any (dict_typeIs I g) PySem.F.slot_dict_getitem.lookup (d_getItem hu I g ry fun w' s3 I3 rw' => ⟨w, H, I3, rw', q⟩) hs
theorem up_ix (H : Hp) (m : Mp) (u v : D) (x y : V) (Q : VK) (rx : Rep X.K H u x) (ry : Rep X.K H v y) (hm : Ab X.K cl H m) (h : fIx u v m (cE X.K cl H Q)) : rIx X.K x y H Q ∨ rIxDk x y H Q := by
  unfold fIx at h
  split at h
  · rename_i p
    have rx' : x = .ref p := rx
    rcases h with ⟨i, l, d, rfl, h1, h2, h3⟩ | ⟨d, h1, h2⟩
    · have ry' : y = .int i := ry
      obtain ⟨vs, q1, q2⟩ := hm.rl h1
      obtain ⟨v, q3, q4⟩ := q2.atI h2
      exact .inl (.inl ⟨p, vs, i, v, rx', ry', q1, q3, h3 _ _ q4 hm (Ext.refl H)⟩)
    · obtain ⟨ov, g, e⟩ := h1.up hm ry
      rcases e with ⟨e, _⟩ | ⟨d', w, e, rfl, e3⟩
      · cases e
      · cases e
        exact .inr ⟨p, w, rx', g, h2 _ _ e3 hm (Ext.refl H)⟩
  · rename_i l i
    have ry' : y = .int i := ry
    obtain ⟨p, vs, rfl, q1, q2⟩ := rx
    obtain ⟨d, h2, h3⟩ := h
    obtain ⟨v, q3, q4⟩ := q2.atI h2
    exact .inl (.inr (.inl ⟨p, vs, i, v, rfl, ry', q1, q3, h3 _ _ q4 hm (Ext.refl H)⟩))
  · rename_i z i
    have rx' : x = .str z := rx
    have ry' : y = .int i := ry
    obtain ⟨h0, c, h2, h3⟩ := h
    exact .inl (.inr (.inr ⟨z, i, c, rx', ry', h0, h2, h3 _ _ rfl hm (Ext.refl H)⟩))
  · exact h.elim
theorem q_ix (hu : X.A.units + 64 < cLine) (ha : QE X cl W a A) (hb : QE X cl W b B) (hs : PlainIx b) : QE X cl W (.Subscript a b pos) (eBin fIx A B) :=
  ⟨mono_bin mono_ix ha.mono hb.mono, PE.imp (pe_ix (ix_seq.or (ix_dict (by omega))) ha.run hb.run hs) (two_up ha.mono hb.mono up_ix mono_ix)⟩

/-! ### slices -/
def cutD (xs : List D) (lo hi : Option Int) : List D := (xs.drop (HT.sIx xs.length 0 lo)).take (HT.sIx xs.length xs.length hi - HT.sIx xs.length 0 lo)
def fSl (u : D) (lo hi : Option Int) (m : Mp) (k : K3) : Prop := match u with
  | .ref p => ∃ l, RL m p l ∧ ∀ z, m z = none → k (.ref z) (mset m z (.lst (cutD l lo hi)))
  | .tup l => k (.tup (cutD l lo hi)) m
  | .str z => z.length ≤ sizeLine ∧ k (.str (cutS z lo hi)) m
  | _ => False
theorem mono_sl {u : D} {lo hi : Option Int} {m : Mp} {k k' : K3} (hk : ∀ d m, k d m → k' d m) (h : fSl u lo hi m k) : fSl u lo hi m k' := by
  unfold fSl at h ⊢
  split at h
  · obtain ⟨l, h1, h2⟩ := h
    exact ⟨l, h1, fun z hz => hk _ _ (h2 z hz)⟩
  · exact hk _ _ h
  · exact ⟨h.1, hk _ _ h.2⟩
  · exact h.elim
abbrev TO3 := S3 → Mp → (Option Int → Mp → Prop) → X3 → Prop
def oNone : TO3 := fun _ m k _ => k none m
def oSome (A : TE3) : TO3 := fun s m k x => A s m (fun d m1 => ∃ i, d = .int i ∧ k (some i) m1) x
def upO (K : PySem.W.Frag) (cl : Cl) (W : WX) (T : TO3) : TO := fun σ H Q => ∃ s m, RepS K H s σ ∧ Ab K cl H m ∧ T s m (fun o m' => ∀ H', Ab K cl H' m' → Ext H H' → Q o H') (cX K cl W H σ)
def MonoO (T : TO3) : Prop := ∀ s m k k' x x', (∀ d m, k d m → k' d m) → (∀ e m, x e m → x' e m) → T s m k x → T s m k' x'
structure QO (X : Cx) (cl : Cl) (W : WX) (e : Option Expr) (T : TO3) : Prop where
  mono : MonoO T
  run : PO X e (upO X.K cl W T)
theorem PO.imp {X : Cx} {e : Option Expr} {t t' : TO} (h : PO X e t) (i : ∀ σ H Q, t' σ H Q → t σ H Q) : PO X e t' := ⟨fun pins s σ H Q I q => h.run pins s σ H Q I (i σ H Q q)⟩
theorem qo_none : QO X cl W none oNone := ⟨fun s m k k' x x' hk hx q => hk _ _ q, PO.imp po_none fun σ H Q ⟨s, m, hs, hm, q⟩ => q H hm (Ext.refl H)⟩
theorem qo_some (ha : QE X cl W a A) : QO X cl W (some a) (oSome A) :=
  ⟨fun s m k k' x x' hk hx q => ha.mono _ _ _ _ _ _ (fun d m1 ⟨i, e, z⟩ => ⟨i, e, hk _ _ z⟩) hx q,
   PO.imp (po_some ha.run) fun σ H Q ⟨s, m, hs, hm, q⟩ => ⟨s, m, hs, hm, ha.mono _ _ _ _ _ _ (fun d m1 ⟨i, e, z⟩ v H1 r hm1 e1 => ⟨i, by subst e; exact r, z H1 hm1 e1⟩) (fun _ _ z => z) q⟩⟩
def eSl (A : TE3) (L U : TO3) : TE3 := fun s m k x => A s m (fun d m1 => L s m1 (fun lo m2 => U s m2 (fun hi m3 => fSl d lo hi m3 k) x) x) x
theorem Reps.cut {K : PySem.W.Frag} {H : Hp} {l : List D} {vs : List V} (lo hi : Option Int) (r : Reps K H l vs) : Reps K H (cutD l lo hi) (cutV vs lo hi) := by
  unfold cutD cutV
  rw [r.length]
  exact (r.drop _).take _
theorem q_sl {lo hi : Option Expr} {L U : TO3} {p2 : Pos} (ha : QE X cl W a A) (hl : QO X cl W lo L) (hu : QO X cl W hi U) : QE X cl W (.Subscript a (.Slice lo hi none p2) pos) (eSl A L U) :=
  ⟨fun s m k k' x x' hk hx q => ha.mono _ _ _ _ _ _ (fun d m1 z => hl.mono _ _ _ _ _ _ (fun l m2 w => hu.mono _ _ _ _ _ _ (fun h m3 y => mono_sl hk y) hx w) hx z) hx q,
   PE.imp (pe_slice (sl_list.or (sl_tupA.or sl_str)) ha.run hl.run hu.run) fun σ H Q ⟨s, m, hs, hm, q⟩ => ⟨s, m, hs, hm, ha.mono _ _ _ _ _ _ (fun d m1 z v H1 r1 hm1 e1 =>
    ⟨s, m1, hs.mono e1, hm1, hl.mono _ _ _ _ _ _ (fun l m2 w H2 hm2 e2 => ⟨s, m2, hs.mono (e1.trans e2), hm2, hu.mono _ _ _ _ _ _ (fun h m3 y H3 hm3 e3 => by
      have e13 := (e1.trans e2).trans e3
      have r3 := r1.mono (e2.trans e3)
      unfold fSl at y
      split at y
      · rename_i p
        have r' : v = .ref p := r3
        obtain ⟨l, h1, h2⟩ := y
        obtain ⟨vs, q1, q2⟩ := hm3.rl h1
        exact .inl ⟨p, vs, r', q1, fun z hz => h2 z (hm3.free hz) _ _ rfl (new_lst hm3 hz (q2.cut _ _)) (e13.trans (Ext.new hz))⟩
      · rename_i xs
        obtain ⟨p, vs, rfl, q1, q2⟩ := r3
        refine .inr (.inl ⟨p, vs, rfl, q1, fun hw => ?_, fun _ z hz => ?_⟩)
        · have e : cutV vs l h = vs := by
            unfold cutV
            rw [hw.1, hw.2, List.drop_zero, Nat.sub_zero, List.take_length]
          have c := q2.cut l h
          rw [e] at c
          exact y _ _ ⟨p, vs, rfl, q1, c⟩ hm3 e13
        · exact y _ _ (rep_tup hz (q2.cut _ _)) (hm3.hid hz) (e13.trans (Ext.new hz))
      · rename_i t
        have r' : v = .str t := r3
        exact .inr (.inr ⟨t, r', y.1, y.2 _ _ rfl hm3 e13⟩)
      · exact y.elim) (fun _ _ w => cX_ext (e1.trans e2) w) w⟩) (fun _ _ w => cX_ext e1 w) z⟩) (fun _ _ z => z) q⟩⟩
end
end PV

/-! Calls: built-ins, own defs. -/
namespace PV
open PySem L2 PyProof.Rows
section
variable {X : Cx} {cl : Cl} {W : WX} {a b c : Expr} {A B C : TE3} {rest : List Expr} {R : TA3} {pos p : Pos}

theorem t_chain {op op' : CmpOp} {p q : Int → Int → Bool} (ho : OpR X (compareOp op) (rI0 fun i j => .bl (p i j))) (ho' : OpR X (compareOp op') (rI0 fun i j => .bl (q i j))) (n3 : op' ≠ .In) (n4 : op' ≠ .NotIn)
    (ha : QE X cl W a A) (hb : QE X cl W b B) (hc : QE X cl W c C) : QT X cl W (.Compare a [op, op'] [b, c] pos) (tBv (eChain p q A B C)) := by
  have mc : MonoE (eChain p q A B C) := fun s m k k' x x' hk hx h => ha.mono _ _ _ _ _ _ (fun u m1 h1 => hb.mono _ _ _ _ _ _ (fun v m2 ⟨i, j, e1, e2, h2⟩ => ⟨i, j, e1, e2, by
      split at h2
      · rename_i z
        rw [if_pos z]
        exact hc.mono _ _ _ _ _ _ (fun w m3 ⟨l, e3, h3⟩ => ⟨l, e3, hk _ _ h3⟩) hx h2
      · rename_i z
        rw [if_neg z]
        exact hk _ _ h2⟩) hx h1) hx h
  refine ⟨mono_tBv mc, PT.imp (pt_chain ho ho' ha.run hb.run hc.run (show behindInMarks op' c = false from nobehind _ n3 n4)) fun σ H Q q0 => ?_⟩
  obtain ⟨s, m, hs, hm, h⟩ := upT_tBv mc σ H Q q0
  refine ⟨s, m, hs, hm, ha.mono _ _ _ _ _ _ (fun u m1 h1 x H1 rx hm1 e1 => ?_) (fun _ _ z => z) h⟩
  refine ⟨s, m1, hs.mono e1, hm1, hb.mono _ _ _ _ _ _ (fun v m2 h2 y H2 ry hm2 e2 => ?_) (fun _ _ z => cX_ext e1 z) h1⟩
  obtain ⟨i, j, rfl, rfl, h3⟩ := h2
  refine ⟨i, j, rx, ry, p i j, rfl, ?_⟩
  split at h3
  · rename_i z
    rw [if_pos z]
    refine ⟨s, m2, hs.mono (e1.trans e2), hm2, hc.mono _ _ _ _ _ _ (fun w m3 ⟨l, e3, h4⟩ z H3 rz hm3 e4 => ?_) (fun _ _ z => cX_ext (e1.trans e2) z) h3⟩
    subst e3
    have ry' : y = .int j := ry
    exact ⟨j, l, ry', rz, h4 _ _ rfl hm3 ((e1.trans e2).trans e4)⟩
  · rename_i z
    rw [if_neg z]
    exact h3 _ _ rfl hm2 (e1.trans e2)

/-! ### a built-in called -/
def eCB (f : List D → Mp → K3 → Prop) (R : TA3) : TE3 := fun s m k x => R s m (fun ds m1 => f ds m1 k) x
def MonoC (f : List D → Mp → K3 → Prop) : Prop := ∀ ds m k k', (∀ d m, k d m → k' d m) → f ds m k → f ds m k'
theorem mono_CB {f : List D → Mp → K3 → Prop} (hf : MonoC f) (hr : MonoA R) : MonoE (eCB f R) := fun s m k k' x x' hk hx h => hr _ _ _ _ _ _ (fun ds m1 z => hf _ _ _ _ hk z) hx h
def UpC (X : Cx) (cl : Cl) (f : List D → Mp → K3 → Prop) (r : List V → Hp → VK → Prop) : Prop :=
  ∀ (H : Hp) (m : Mp) (ds : List D) (vs : List V) (Q : VK), Reps X.K H ds vs → Ab X.K cl H m → f ds m (cE X.K cl H Q) → r vs H Q
theorem up_CB {f : List D → Mp → K3 → Prop} {r : List V → Hp → VK → Prop} (hr : MonoA R) (mf : MonoC f) (u : UpC X cl f r) (σ : L2.St) (H : Hp) (Q : VK) (h : upE X.K cl W (eCB f R) σ H Q) : tCB r (upA X.K cl W R) σ H Q := by
  obtain ⟨s, m, hs, hm, h⟩ := h
  exact ⟨s, m, hs, hm, hr _ _ _ _ _ _ (fun ds m1 z vs H1 r1 hm1 e1 => u H1 m1 ds vs Q r1 hm1 (mf _ _ _ _ (fun d m w => cE_ext e1 w) z)) (fun _ _ z => z) h⟩
theorem q_cb {x : Str} {id : String} {f : List D → Mp → K3 → Prop} {r : List V → Hp → VK → Prop} (hc : CallR X (.builtin id) r) (u : UpC X cl f r) (mf : MonoC f)
    (hv : bootBuiltins x = some (.builtin id)) (hn : x ≠ "__name__") (hdb : (x == ("__debug__" : Str)) = false)
    (hg : Gl X x) (hm : X.mg x = none) (ha : QA X cl W (a :: rest) R) (he : starEach (a :: rest) X.env = (false, eval a X.env) :: starEach rest X.env) (hpl : (backTo pos (starEach rest X.env)).any (·.1) = false) :
    QE X cl W (.Call (.Name x p) (a :: rest) [] pos) (eCB f R) :=
  ⟨mono_CB mf ha.mono, PE.imp (pe_callB hc hg hm hv ha.run hn hdb he hpl) (up_CB ha.mono mf u)⟩
theorem q_cty {x : Str} {T : String} {f : List D → Mp → K3 → Prop} {r : List V → Hp → VK → Prop} (hc : CallR X (.type T) r) (u : UpC X cl f r) (mf : MonoC f)
    (hv : bootBuiltins x = some (.type T)) (hn : x ≠ "__name__") (hdb : (x == ("__debug__" : Str)) = false)
    (hg : Gl X x) (hm : X.mg x = none) (ha : QA X cl W (a :: rest) R) (he : starEach (a :: rest) X.env = (false, eval a X.env) :: starEach rest X.env) (hpl : (backTo pos (starEach rest X.env)).any (·.1) = false) :
    QE X cl W (.Call (.Name x p) (a :: rest) [] pos) (eCB f R) :=
  ⟨mono_CB mf ha.mono, PE.imp (pe_callTy hc hg hm hv ha.run hn hdb he hpl) (up_CB ha.mono mf u)⟩

/-- len -/
def fLen : List D → Mp → K3 → Prop
  | [.str z], m, k => z.length ≤ sizeLine ∧ k (.int z.length) m
  | [.tup l], m, k => k (.int l.length) m
  | [.ref q], m, k => (∃ l, RL m q l ∧ k (.int l.length) m) ∨ ∃ kvs, (m q = some (.dK kvs) ∨ m q = some (.rdK kvs)) ∧ k (.int kvs.length) m
  | _, _, _ => False
theorem mono_len : MonoC fLen := fun ds m k k' hk h => by
  unfold fLen at h ⊢
  split at h
  · exact ⟨h.1, hk _ _ h.2⟩
  · exact hk _ _ h
  · rcases h with ⟨l, h1, h2⟩ | ⟨l, h1, h2⟩
    · exact .inl ⟨l, h1, hk _ _ h2⟩
    · exact .inr ⟨l, h1, hk _ _ h2⟩
  · exact h.elim
theorem reps1 {K : PySem.W.Frag} {H : Hp} {d : D} {vs : List V} (h : Reps K H [d] vs) : ∃ v, vs = [v] ∧ Rep K H d v := by
  obtain ⟨v, r, rfl, h1, h2⟩ := h
  cases h2
  exact ⟨v, rfl, h1⟩
theorem reps2 {K : PySem.W.Frag} {H : Hp} {d e : D} {vs : List V} (h : Reps K H [d, e] vs) : ∃ v w, vs = [v, w] ∧ Rep K H d v ∧ Rep K H e w := by
  obtain ⟨v, r, rfl, h1, h2⟩ := h
  obtain ⟨w, rfl, h3⟩ := reps1 h2
  exact ⟨v, w, rfl, h1, h3⟩
theorem call_lenDk : CallR X (.builtin "len") (fun xs H Q => ∃ a kvs, xs = [V.ref a] ∧ L2.Rd H a (.dK kvs) ∧ Q (.int kvs.length) H) := by
  intro pins s σ H xs us Q I r h
  obtain ⟨a, kvs, rfl, e, q⟩ := h
  rw [Vals.ref1 r]
  exact d_len I e fun t s' I' => ⟨.int kvs.length, H, I', ⟨t, rfl⟩, q⟩
theorem up_len : UpC X cl fLen (fun xs H Q => (∃ x n, xs = [x] ∧ LenV X.K x H n ∧ Q (.int n) H) ∨ ∃ a kvs, xs = [V.ref a] ∧ L2.Rd H a (.dK kvs) ∧ Q (.int kvs.length) H) := fun H m ds vs Q r hm h => by
  unfold fLen at h
  split at h
  · rename_i z
    obtain ⟨v, rfl, h1⟩ := reps1 r
    cases h1
    exact .inl ⟨_, z.length, rfl, ⟨h.1, rfl⟩, h.2 _ _ rfl hm (Ext.refl H)⟩
  · rename_i l
    obtain ⟨v, rfl, a, ws, rfl, h1, h2⟩ := reps1 r
    exact .inl ⟨_, l.length, rfl, .inr ⟨ws, h1, h2.length⟩, h _ _ rfl hm (Ext.refl H)⟩
  · rename_i q
    obtain ⟨v, rfl, h1⟩ := reps1 r
    cases h1
    rcases h with ⟨l, h1, h2⟩ | ⟨l, h1, h2⟩
    · obtain ⟨ws, q1, q2⟩ := hm.rl h1
      exact .inl ⟨_, l.length, rfl, .inl ⟨ws, q1, q2.length⟩, h2 _ _ rfl hm (Ext.refl H)⟩
    · rcases h1 with h1 | h1
      · obtain ⟨ws, q1, q2⟩ := hm.1 _ _ h1
        exact .inr ⟨_, ws, rfl, .inl q1, by rw [← q2.length]; exact h2 _ _ rfl hm (Ext.refl H)⟩
      · obtain ⟨o, ws, q1, q2⟩ := hm.1 _ _ h1
        exact .inr ⟨_, ws, rfl, .inr ⟨o, q1⟩, by rw [← q2.length]; exact h2 _ _ rfl hm (Ext.refl H)⟩
  · exact h.elim
theorem q_len (hg : Gl X "len") (hm : X.mg "len" = none) (ha : QA X cl W (a :: rest) R) (he : starEach (a :: rest) X.env = (false, eval a X.env) :: starEach rest X.env) (hpl : (backTo pos (starEach rest X.env)).any (·.1) = false) :
    QE X cl W (.Call (.Name "len" p) (a :: rest) [] pos) (eCB fLen R) := q_cb (call_len.or call_lenDk) up_len mono_len PySem.boot_len (by decide) (by decide) hg hm ha he hpl
/-- ord of one sign -/
def fOrd : List D → Mp → K3 → Prop := fun ds m k => ∃ z : Str, ds = [.str z] ∧ z.length = 1 ∧ k (.int (z.cps.getD 0 0 : Nat)) m
theorem q_ord (hg : Gl X "ord") (hm : X.mg "ord" = none) (ha : QA X cl W (a :: rest) R) (he : starEach (a :: rest) X.env = (false, eval a X.env) :: starEach rest X.env) (hpl : (backTo pos (starEach rest X.env)).any (·.1) = false) :
    QE X cl W (.Call (.Name "ord" p) (a :: rest) [] pos) (eCB fOrd R) :=
  q_cb call_ord (fun H m ds vs Q r hm ⟨z, e, h1, h2⟩ => by
    subst e
    obtain ⟨v, rfl, q⟩ := reps1 r
    cases q
    exact ⟨z, rfl, h1, h2 _ _ rfl hm (Ext.refl H)⟩) (fun ds m k k' hk ⟨z, e, h1, h2⟩ => ⟨z, e, h1, hk _ _ h2⟩) (by decide +kernel) (by decide) (by decide) hg hm ha he hpl
/-- abs, min, max of ints -/
def fAbs : List D → Mp → K3 → Prop := fun ds m k => ∃ i : Int, ds = [.int i] ∧ k (.int (if i < 0 then -i else i)) m
def fMax2 : List D → Mp → K3 → Prop := fun ds m k => ∃ i j : Int, ds = [.int i, .int j] ∧ k (.int (if j > i then j else i)) m
def fMin2 : List D → Mp → K3 → Prop := fun ds m k => ∃ i j : Int, ds = [.int i, .int j] ∧ k (.int (if j < i then j else i)) m
theorem q_abs (hg : Gl X "abs") (hm : X.mg "abs" = none) (ha : QA X cl W (a :: rest) R) (he : starEach (a :: rest) X.env = (false, eval a X.env) :: starEach rest X.env) (hpl : (backTo pos (starEach rest X.env)).any (·.1) = false) :
    QE X cl W (.Call (.Name "abs" p) (a :: rest) [] pos) (eCB fAbs R) :=
  q_cb call_abs (fun H m ds vs Q r hm ⟨i, e, h2⟩ => by
    subst e
    obtain ⟨v, rfl, q⟩ := reps1 r
    cases q
    exact ⟨i, rfl, h2 _ _ rfl hm (Ext.refl H)⟩) (fun ds m k k' hk ⟨z, e, h2⟩ => ⟨z, e, hk _ _ h2⟩) (by decide +kernel) (by decide) (by decide) hg hm ha he hpl
theorem q_max2 (hc : X.calm = true) (hg : Gl X "max") (hm : X.mg "max" = none) (ha : QA X cl W (a :: rest) R) (he : starEach (a :: rest) X.env = (false, eval a X.env) :: starEach rest X.env) (hpl : (backTo pos (starEach rest X.env)).any (·.1) = false) :
    QE X cl W (.Call (.Name "max" p) (a :: rest) [] pos) (eCB fMax2 R) :=
  q_cb (call_max2 hc) (fun H m ds vs Q r hm ⟨i, j, e, h2⟩ => by
    subst e
    obtain ⟨v, w, rfl, q, q'⟩ := reps2 r
    cases q
    cases q'
    exact ⟨i, j, rfl, h2 _ _ rfl hm (Ext.refl H)⟩) (fun ds m k k' hk ⟨z, j, e, h2⟩ => ⟨z, j, e, hk _ _ h2⟩) (by decide +kernel) (by decide) (by decide) hg hm ha he hpl
theorem q_min2 (hc : X.calm = true) (hg : Gl X "min") (hm : X.mg "min" = none) (ha : QA X cl W (a :: rest) R) (he : starEach (a :: rest) X.env = (false, eval a X.env) :: starEach rest X.env) (hpl : (backTo pos (starEach rest X.env)).any (·.1) = false) :
    QE X cl W (.Call (.Name "min" p) (a :: rest) [] pos) (eCB fMin2 R) :=
  q_cb (call_min2 hc) (fun H m ds vs Q r hm ⟨i, j, e, h2⟩ => by
    subst e
    obtain ⟨v, w, rfl, q, q'⟩ := reps2 r
    cases q
    cases q'
    exact ⟨i, j, rfl, h2 _ _ rfl hm (Ext.refl H)⟩) (fun ds m k k' hk ⟨z, j, e, h2⟩ => ⟨z, j, e, hk _ _ h2⟩) (by decide +kernel) (by decide) (by decide) hg hm ha he hpl
/-- int of an int, a truth; str of an int -/
def fInt : List D → Mp → K3 → Prop := fun ds m k => (∃ i : Int, ds = [.int i] ∧ k (.int i) m) ∨ (∃ b : Bool, ds = [.bl b] ∧ k (.int (if b then 1 else 0)) m) ∨ ∃ (z : Str) (n : Int), ds = [.str z] ∧ PySem.intText? z = some n ∧ z.length ≤ 640 ∧ k (.int n) m
def fStr : List D → Mp → K3 → Prop := fun ds m k => (∃ i : Int, ds = [.int i] ∧ i.natAbs.log2 < 1920 ∧ k (.str (toString i)) m) ∨ ∃ b : Bool, ds = [.bl b] ∧ k (.str (if b then "True" else "False")) m
theorem call_str_bl : CallR X (.type "str") (fun xs H Q => ∃ b, xs = [.bl b] ∧ Q (.str (if b then "True" else "False")) H) := fun pins s σ H xs us Q I r h => by
  obtain ⟨b, rfl, q⟩ := h
  obtain ⟨u, rfl, r1⟩ := vals1 r
  cases r1
  exact PySem.P.str_of_bool ⟨.str _, H, I.tok _, ⟨_, rfl⟩, q⟩
theorem q_int1 (hg : Gl X "int") (hm : X.mg "int" = none) (ha : QA X cl W (a :: rest) R) (he : starEach (a :: rest) X.env = (false, eval a X.env) :: starEach rest X.env) (hpl : (backTo pos (starEach rest X.env)).any (·.1) = false) :
    QE X cl W (.Call (.Name "int" p) (a :: rest) [] pos) (eCB fInt R) :=
  q_cty (call_int1.or call_int_str) (fun H m ds vs Q r hm h => by
    rcases h with ⟨i, e, h2⟩ | ⟨i, e, h2⟩ | ⟨z, n, e, h1, h3, h2⟩
    · subst e
      obtain ⟨v, rfl, q⟩ := reps1 r
      cases q
      exact .inl (.inl ⟨i, rfl, h2 _ _ rfl hm (Ext.refl H)⟩)
    · subst e
      obtain ⟨v, rfl, q⟩ := reps1 r
      cases q
      exact .inl (.inr ⟨i, rfl, h2 _ _ rfl hm (Ext.refl H)⟩)
    · subst e
      obtain ⟨v, rfl, q⟩ := reps1 r
      cases q
      exact .inr ⟨z, n, rfl, h1, h3, h2 _ _ rfl hm (Ext.refl H)⟩) (fun ds m k k' hk h => by
    rcases h with ⟨i, e, h2⟩ | ⟨i, e, h2⟩ | ⟨z, n, e, h1, h3, h2⟩
    · exact .inl ⟨i, e, hk _ _ h2⟩
    · exact .inr (.inl ⟨i, e, hk _ _ h2⟩)
    · exact .inr (.inr ⟨z, n, e, h1, h3, hk _ _ h2⟩)) (by decide +kernel) (by decide) (by decide) hg hm ha he hpl
theorem q_str1 (hg : Gl X "str") (hm : X.mg "str" = none) (ha : QA X cl W (a :: rest) R) (he : starEach (a :: rest) X.env = (false, eval a X.env) :: starEach rest X.env) (hpl : (backTo pos (starEach rest X.env)).any (·.1) = false) :
    QE X cl W (.Call (.Name "str" p) (a :: rest) [] pos) (eCB fStr R) :=
  q_cty (call_str_int.or call_str_bl) (fun H m ds vs Q r hm h => by
    rcases h with ⟨i, e, h1, h2⟩ | ⟨i, e, h2⟩
    · subst e
      obtain ⟨v, rfl, q⟩ := reps1 r
      cases q
      exact .inl ⟨i, rfl, h1, h2 _ _ rfl hm (Ext.refl H)⟩
    · subst e
      obtain ⟨v, rfl, q⟩ := reps1 r
      cases q
      exact .inr ⟨i, rfl, h2 _ _ rfl hm (Ext.refl H)⟩) (fun ds m k k' hk h => by
    rcases h with ⟨z, e, h1, h2⟩ | ⟨z, e, h2⟩
    · exact .inl ⟨z, e, h1, hk _ _ h2⟩
    · exact .inr ⟨z, e, hk _ _ h2⟩) (by decide +kernel) (by decide) (by decide) hg hm ha he hpl
/-- tuple(..), list(..) of a list, a tuple -/
def fTuple : List D → Mp → K3 → Prop := fun ds m k => (∃ q l, ds = [.ref q] ∧ RL m q l ∧ k (.tup l) m) ∨ ∃ l, ds = [.tup l] ∧ k (.tup l) m
def fList : List D → Mp → K3 → Prop := fun ds m k => ∃ l, ((∃ q, ds = [.ref q] ∧ RL m q l) ∨ ds = [.tup l]) ∧ ∀ z, m z = none → k (.ref z) (mset m z (.lst l))
theorem q_tuple (hg : Gl X "tuple") (hm : X.mg "tuple" = none) (ha : QA X cl W (a :: rest) R) (he : starEach (a :: rest) X.env = (false, eval a X.env) :: starEach rest X.env) (hpl : (backTo pos (starEach rest X.env)).any (·.1) = false) :
    QE X cl W (.Call (.Name "tuple" p) (a :: rest) [] pos) (eCB fTuple R) :=
  q_cty call_tuple_of (fun H m ds vs Q r hm h => by
    rcases h with ⟨q, l, e, h1, h2⟩ | ⟨l, e, h2⟩
    · subst e
      obtain ⟨v, rfl, q⟩ := reps1 r
      cases q
      obtain ⟨ws, q1, q2⟩ := hm.rl h1
      exact ⟨_, ws, rfl, .inl ⟨q1, fun z hz => h2 _ _ (rep_tup hz q2) (hm.hid hz) (Ext.new hz)⟩⟩
    · subst e
      obtain ⟨v, rfl, q⟩ := reps1 r
      have q' := q
      obtain ⟨u, ws, rfl, q1, q2⟩ := q
      exact ⟨_, ws, rfl, .inr ⟨q1, h2 _ _ q' hm (Ext.refl H)⟩⟩) (fun ds m k k' hk h => by
    rcases h with ⟨i, l, e, h1, h2⟩ | ⟨i, e, h2⟩
    · exact .inl ⟨i, l, e, h1, hk _ _ h2⟩
    · exact .inr ⟨i, e, hk _ _ h2⟩) (by decide +kernel) (by decide) (by decide) hg hm ha he hpl
theorem q_list (hg : Gl X "list") (hm : X.mg "list" = none) (ha : QA X cl W (a :: rest) R) (he : starEach (a :: rest) X.env = (false, eval a X.env) :: starEach rest X.env) (hpl : (backTo pos (starEach rest X.env)).any (·.1) = false) :
    QE X cl W (.Call (.Name "list" p) (a :: rest) [] pos) (eCB fList R) :=
  q_cty call_list_of (fun H m ds vs Q r hm h => by
    obtain ⟨l, h1, h2⟩ := h
    rcases h1 with ⟨q, e, h1⟩ | e
    · subst e
      obtain ⟨v, rfl, q⟩ := reps1 r
      cases q
      obtain ⟨ws, q1, q2⟩ := hm.rl h1
      exact ⟨_, ws, rfl, .inl q1, fun z hz => h2 z (hm.free hz) _ _ rfl (new_lst hm hz q2) (Ext.new hz)⟩
    · subst e
      obtain ⟨v, rfl, u, ws, rfl, q1, q2⟩ := reps1 r
      exact ⟨_, ws, rfl, .inr q1, fun z hz => h2 z (hm.free hz) _ _ rfl (new_lst hm hz q2) (Ext.new hz)⟩) (fun ds m k k' hk ⟨l, h1, h2⟩ => ⟨l, h1, fun z hz => hk _ _ (h2 z hz)⟩) (by decide +kernel) (by decide) (by decide) hg hm ha he hpl
/-- divmod, any positive divisor below 2 ^ 9000 -/
theorem cr_dvm : CallR X (.builtin "divmod") (fun zs G R => ∃ a b : Int, zs = [.int a, .int b] ∧ CDivW a b ∧ ∀ z, G z = none → R (.ref z) (upd G z (.tup [.int (a / b), .int (a % b)]))) := by
  intro pins s σ G zs us R inv rr hh
  obtain ⟨a, b, rfl, hc, rest⟩ := hh
  have hb0 : (0 : Int) < b := hc.1
  obtain ⟨_, _, rfl, ⟨ta, rfl⟩, ⟨tb, rfl⟩⟩ := vals2 rr
  refine PyProof.Rows.divmod_int (by omega) ?_ (.inl (PyProof.noPylong_of_log2 hc.2))
  have new : G s.heap.objs.size = none := inv.hok.fresh (Nat.le_refl _)
  rw [show a.fdiv b = a / b from Int.fdiv_eq_ediv_of_nonneg a (by omega), show a.fmod b = a % b from Int.fmod_eq_emod_of_nonneg a (by omega)]
  refine ⟨.ref s.heap.objs.size, _, inv.laid (fun c o e => Heap.get?_push_of_some _ e) (Nat.le_refl _) ?_, rfl, rest _ new⟩
  exact ⟨(by show 2 ≤ sizeLine; decide), [.int (a / b) s.toks, .int (a % b) (s.toks + 1)], .cons ⟨_, rfl⟩ (.cons ⟨_, rfl⟩ .nil), _, Heap.get?_push_size s.heap rfl, rfl, 0, rfl⟩
/-- divmod -/
def fDivmod : List D → Mp → K3 → Prop := fun ds m k => ∃ i j : Int, ds = [.int i, .int j] ∧ CDivW i j ∧ k (.tup [.int (i / j), .int (i % j)]) m
theorem q_divmod (hg : Gl X "divmod") (hm : X.mg "divmod" = none) (ha : QA X cl W (a :: rest) R) (he : starEach (a :: rest) X.env = (false, eval a X.env) :: starEach rest X.env) (hpl : (backTo pos (starEach rest X.env)).any (·.1) = false) :
    QE X cl W (.Call (.Name "divmod" p) (a :: rest) [] pos) (eCB fDivmod R) :=
  q_cb cr_dvm (fun H m ds vs Q r hm ⟨i, j, e, h1, h2⟩ => by
    subst e
    obtain ⟨v, w, rfl, q, q'⟩ := reps2 r
    cases q
    cases q'
    exact ⟨i, j, rfl, h1, fun p hp => h2 _ _ (rep_tup hp ⟨_, _, rfl, rfl, _, _, rfl, rfl, rfl⟩) (hm.hid hp) (Ext.new hp)⟩) (fun ds m k k' hk ⟨z, j, e, h1, h2⟩ => ⟨z, j, e, h1, hk _ _ h2⟩) (by decide +kernel) (by decide) (by decide) hg hm ha he hpl
/-- sum of a list of ints -/
def fSum : List D → Mp → K3 → Prop := fun ds m k => ∃ q, ∃ ns : List Int, ds = [.ref q] ∧ RL m q (ns.map D.int) ∧ k (.int ns.sum) m
theorem q_sum (hc : X.calm = true) (hg : Gl X "sum") (hm : X.mg "sum" = none) (ha : QA X cl W (a :: rest) R) (he : starEach (a :: rest) X.env = (false, eval a X.env) :: starEach rest X.env) (hpl : (backTo pos (starEach rest X.env)).any (·.1) = false) :
    QE X cl W (.Call (.Name "sum" p) (a :: rest) [] pos) (eCB fSum R) :=
  q_cb (cr_sum hc) (fun H m ds vs Q r hm ⟨i, ns, e, h1, h2⟩ => by
    subst e
    obtain ⟨v, rfl, q⟩ := reps1 r
    cases q
    obtain ⟨ws, q1, q2⟩ := hm.rl h1
    have e := q2.ints
    subst e
    exact ⟨i, ns, rfl, q1, h2 _ _ rfl hm (Ext.refl H)⟩) (fun ds m k k' hk ⟨z, j, e, h1, h2⟩ => ⟨z, j, e, h1, hk _ _ h2⟩) (by decide +kernel) (by decide) (by decide) hg hm ha he hpl

/-- max, min of a list of ints -/
def fMax1 : List D → Mp → K3 → Prop := fun ds m k => ∃ q, ∃ ns : List Int, ds = [.ref q] ∧ RL m q (ns.map D.int) ∧ 0 < ns.length ∧ ∀ i, i ∈ ns → (∀ y, y ∈ ns → y ≤ i) → k (.int i) m
def fMin1 : List D → Mp → K3 → Prop := fun ds m k => ∃ q, ∃ ns : List Int, ds = [.ref q] ∧ RL m q (ns.map D.int) ∧ 0 < ns.length ∧ ∀ i, i ∈ ns → (∀ y, y ∈ ns → i ≤ y) → k (.int i) m
theorem q_max1 (hc : X.calm = true) (hg : Gl X "max") (hm : X.mg "max" = none) (ha : QA X cl W (a :: rest) R) (he : starEach (a :: rest) X.env = (false, eval a X.env) :: starEach rest X.env) (hpl : (backTo pos (starEach rest X.env)).any (·.1) = false) :
    QE X cl W (.Call (.Name "max" p) (a :: rest) [] pos) (eCB fMax1 R) :=
  q_cb (cr_max hc) (fun H m ds vs Q r hm ⟨i, ns, e, h1, h0, h2⟩ => by
    subst e
    obtain ⟨v, rfl, q⟩ := reps1 r
    cases q
    obtain ⟨ws, q1, q2⟩ := hm.rl h1
    have e := q2.ints
    subst e
    exact ⟨i, ns, rfl, q1, h0, fun j j1 j2 => h2 j j1 j2 _ _ rfl hm (Ext.refl H)⟩) (fun ds m k k' hk ⟨z, j, e, h1, h0, h2⟩ => ⟨z, j, e, h1, h0, fun j j1 j2 => hk _ _ (h2 j j1 j2)⟩) (by decide +kernel) (by decide) (by decide) hg hm ha he hpl
theorem q_min1 (hc : X.calm = true) (hg : Gl X "min") (hm : X.mg "min" = none) (ha : QA X cl W (a :: rest) R) (he : starEach (a :: rest) X.env = (false, eval a X.env) :: starEach rest X.env) (hpl : (backTo pos (starEach rest X.env)).any (·.1) = false) :
    QE X cl W (.Call (.Name "min" p) (a :: rest) [] pos) (eCB fMin1 R) :=
  q_cb (cr_min hc) (fun H m ds vs Q r hm ⟨i, ns, e, h1, h0, h2⟩ => by
    subst e
    obtain ⟨v, rfl, q⟩ := reps1 r
    cases q
    obtain ⟨ws, q1, q2⟩ := hm.rl h1
    have e := q2.ints
    subst e
    exact ⟨i, ns, rfl, q1, h0, fun j j1 j2 => h2 j j1 j2 _ _ rfl hm (Ext.refl H)⟩) (fun ds m k k' hk ⟨z, j, e, h1, h0, h2⟩ => ⟨z, j, e, h1, h0, fun j j1 j2 => hk _ _ (h2 j j1 j2)⟩) (by decide +kernel) (by decide) (by decide) hg hm ha he hpl

/-! ### isinstance with a built-in class -/
inductive TyD (m : Mp) : D → String → Prop where
  | non : TyD m .non "NoneType"
  | bl (b : Bool) : TyD m (.bl b) "bool"
  | int (b : Int) : TyD m (.int b) "int"
  | str (b : Str) : TyD m (.str b) "str"
  | tup (b : List D) : TyD m (.tup b) "tuple"
  | lst {p : Addr} {l : List D} (h : RL m p l) : TyD m (.ref p) "list"
  | dK {p : Addr} {l : List (Key × D)} (h : m p = some (.dK l)) : TyD m (.ref p) "dict"
  | dT {p : Addr} {l : List (List Key × D)} (h : m p = some (.dT l)) : TyD m (.ref p) "dict"
theorem TyD.up {m : Mp} {d : D} {t : String} {H : Hp} {v : V} (h : TyD m d t) (r : Rep X.K H d v) (hm : Ab X.K cl H m) : TyX X.K H v (.type t) := by
  cases h with
  | non => cases r; exact .base .non
  | bl b => cases r; exact .base (.bl b)
  | int b => cases r; exact .base (.int b)
  | str b => cases r; exact .base (.str b)
  | tup l =>
    obtain ⟨a, vs, rfl, h1, _⟩ := r
    rcases h1 with (h1 | ⟨o, h1⟩) | ⟨o, its, n, h1, h2, _⟩
    · exact .base (.tup h1)
    · exact .fTuple h1
    · exact .kTuple h1 h2
  | lst h =>
    cases r
    rcases h with h | h | h
    · obtain ⟨vs, h1, _⟩ := hm.1 _ _ h
      exact .base (.lst h1)
    · obtain ⟨o, vs, h1, _⟩ := hm.1 _ _ h
      exact .base (.frz h1)
    · obtain ⟨vs, ⟨o, its, n, h1, h2, _⟩, _⟩ := hm.2 _ _ h
      exact .kList h1 h2
  | dK h =>
    cases r
    obtain ⟨vs, h1, _⟩ := hm.1 _ _ h
    exact .base (.dK h1)
  | dT h =>
    cases r
    obtain ⟨vs, h1, _⟩ := hm.1 _ _ h
    exact .base (.dT h1)
/-- isinstance(x, T), T a built-in class -/
def fIsi : List D → Mp → K3 → Prop := fun ds m k => ∃ d T t b, ds = [d, .ty T] ∧ TyD m d t ∧ kitB t T = some b ∧ k (.bl b) m
theorem q_isi (hg : Gl X "isinstance") (hm : X.mg "isinstance" = none) (ha : QA X cl W (a :: rest) R) (he : starEach (a :: rest) X.env = (false, eval a X.env) :: starEach rest X.env) (hpl : (backTo pos (starEach rest X.env)).any (·.1) = false) :
    QE X cl W (.Call (.Name "isinstance" p) (a :: rest) [] pos) (eCB fIsi R) :=
  q_cb call_isi (fun H m ds vs Q r hm ⟨d, T, t, b, e, h1, h2, h3⟩ => by
    subst e
    obtain ⟨v, w, rfl, q, q'⟩ := reps2 r
    cases q'
    exact ⟨v, .ty T, .type t, .type T, b, rfl, .ty T, h1.up q hm, kit_ty h2, h3 _ _ rfl hm (Ext.refl H)⟩) (fun ds m k k' hk ⟨d, T, t, b, e, h1, h2, h3⟩ => ⟨d, T, t, b, e, h1, h2, hk _ _ h3⟩) (by decide +kernel) (by decide) (by decide) hg hm ha he hpl
/-- a built-in class as a value -/
theorem q_ty {x : Str} {T : String} (hv : bootBuiltins x = some (.type T)) (hn : x ≠ "__name__") (hdb : (x == ("__debug__" : Str)) = false) (hg : Gl X x) (hm : X.mg x = none) : QE X cl W (.Name x p) (eLit (.ty T)) :=
  lit_of (pe_bltn (v := V.ty T) hg hm hv rfl hn hdb) fun _ => rfl

/-! ### own defs -/
/-- a def's promise: al: what is given beside; lev: how many calls stand within one another beneath it -/
structure FSpec where
  al : Type
  lev : al → Nat
  pre : al → List D → Mp → Prop
  post : al → Mp → D → Mp → Prop
  exc : al → Mp → Xc → Mp → Prop
def liftSp (K : PySem.W.Frag) (cl : Cl) (S : FSpec) (L : Nat) : Sp := fun vs H Q E => ∃ ds m a, Reps K H ds vs ∧ Ab K cl H m ∧ S.lev a < L ∧ S.pre a ds m ∧ (∀ d m', S.post a m d m' → cE K cl H Q d m') ∧
  ∀ x m', S.exc a m x m' → ∀ c dd H', RepX K cl H' x c dd → Ab K cl H' m' → Ext H H' → E c dd H'
/-- which promises stand, by the defs' numbers -/
abbrev Tb := Nat → FSpec → Prop
def callS (T : Tb) (L : Nat) (i : Nat) (ds : List D) (m : Mp) (k : K3) (x : X3) : Prop :=
  ∃ S, T i S ∧ ∃ a : S.al, S.lev a < L ∧ S.pre a ds m ∧ (∀ d m', S.post a m d m' → k d m') ∧ ∀ e m', S.exc a m e m' → x e m'
def eCall (T : Tb) (L : Nat) (i : Nat) (R : TA3) : TE3 := fun s m k x => R s m (fun ds m1 => callS T L i ds m1 k x) x
/-- what stands of a def in the written part, and its promises at a level -/
structure Kn (P : Program) (w : World) (K : PySem.W.Frag) (mg : Str → Option Value) (base : Heap) (cl : Cl) (T : Tb) (L : Nat) (i : Nat) (f : Str) (fa : Addr) : Prop where
  at_ : mg f = some (.ref fa)
  kp : PySem.W.keepIn K (.ref fa) = true
  fn : ∀ S, T i S → ∃ fd ps, FnOk P w K mg base (L2.CX P w) L fa fd ps (liftSp K cl S L) ∧ Binds K fd ps []
structure Known (X : Cx) (cl : Cl) (T : Tb) (L : Nat) (i : Nat) (f : Str) (fa : Addr) : Prop where
  kn : Kn X.prog X.w X.K X.mg X.base cl T L i f fa
  room : Room L X.A
theorem mono_call {T : Tb} {L i : Nat} (hr : MonoA R) : MonoE (eCall T L i R) := fun s m k k' x x' hk hx h => hr _ _ _ _ _ _ (fun ds m1 ⟨S, t, a, h1, h2, h3, h4⟩ => ⟨S, t, a, h1, h2, fun d m' z => hk _ _ (h3 d m' z), fun e m' z => hx _ _ (h4 e m' z)⟩) hx h
theorem q_call {T : Tb} {L i : Nat} {f : Str} {fa : Addr} (tk : Takes X W) (hf : Known X cl T L i f fa) (hg : Gl X f) (hdb : (f == ("__debug__" : Str)) = false)
    (ha : QA X cl W (a :: rest) R) (he : starEach (a :: rest) X.env = (false, eval a X.env) :: starEach rest X.env) (hpl : (backTo pos (starEach rest X.env)).any (·.1) = false) :
    QE X cl W (.Call (.Name f p) (a :: rest) [] pos) (eCall T L i R) := by
  refine ⟨mono_call ha.mono, ⟨fun pins s0 σ H Q I h => ?_⟩⟩
  obtain ⟨s, m, hs, hm, h⟩ := h
  refine wpAny_Call_Name_kw (ld_glob I hg hf.kn.at_ ?_ hdb)
  have hA : upA X.K cl W R σ H (fun vs H1 => ∃ ds m1, Reps X.K H1 ds vs ∧ Ab X.K cl H1 m1 ∧ Ext H H1 ∧ callS T L i ds m1 (cE X.K cl H Q) (cX X.K cl W H σ)) :=
    ⟨s, m, hs, hm, ha.mono _ _ _ _ _ _ (fun ds m1 z vs H1 r1 hm1 e1 => ⟨ds, m1, r1, hm1, e1, z⟩) (fun _ _ z => z) h⟩
  refine PySem.W.callWith_K (h₀ := X.base) I.ok.mod.kin hf.kn.kp (thn (ha.run.run pos pins s0 σ H _ I hA) fun us s1 ⟨vs, H1, I1, r, ds, m1, r1, hm1, e1, S, t, al, h1, h2, h3, h4⟩ => ⟨I1.kIn, ?_⟩) he hpl
  obtain ⟨fd, ps, F, hb⟩ := hf.kn.fn S t
  exact run_fnS F hf.room hb (passAt tk σ) I1 r ⟨ds, m1, al, r1, hm1, h1, h2, fun d m' z => cE_ext e1 (h3 d m' z), fun x m' z c dd H' a b e => h4 x m' z c dd H' a b (e1.trans e)⟩
theorem q_call0 {T : Tb} {L i : Nat} {f : Str} {fa : Addr} (tk : Takes X W) (hf : Known X cl T L i f fa) (hg : Gl X f) (hdb : (f == ("__debug__" : Str)) = false) :
    QE X cl W (.Call (.Name f p) [] [] pos) (eCall T L i aNil) := by
  refine ⟨mono_call (qa_nil (X := X) (cl := cl) (W := W)).mono, ⟨fun pins s0 σ H Q I h => ?_⟩⟩
  obtain ⟨s, m, hs, hm, S, t, al, h1, h2, h3, h4⟩ := h
  refine wpAny_Call_Name_kw (ld_glob I hg hf.kn.at_ ?_ hdb)
  obtain ⟨fd, ps, F, hb⟩ := hf.kn.fn S t
  exact PySem.W.callWith_K0 I.kIn hf.kn.kp (run_fnS (us := []) F hf.room hb (passAt tk σ) I .nil ⟨[], m, al, rfl, hm, h1, h2, h3, h4⟩)
/-- a constant of the module -/
theorem q_con {x : Str} {d : D} {v : V} (hg : Gl X x) (hm : ∃ u, X.mg x = some u ∧ RelV v u) (q : ∀ H, Rep X.K H d v) (hd : (x == ("__debug__" : Str)) = false) : QE X cl W (.Name x p) (eLit d) := by
  obtain ⟨u, h1, h2⟩ := hm
  exact q_glob hg h1 h2 q hd
theorem room66 {A : Around} {k : Nat} (r : Room k A) : A.units + 64 + 2 < cLine := by have := r.un; omega
end
end PV

/-! Targets, what is walked, statements, comprehensions, a def's promise. -/
namespace PV
open PySem L2 PyProof.Rows
section
variable {X : Cx} {cl : Cl} {W : WX} {a b c tg : Expr} {A B C : TE3} {rest : List Expr} {R : TA3} {pos p : Pos}

/-! ### targets -/
abbrev TG3 := D → S3 → Mp → (S3 → Mp → Prop) → Prop
abbrev TGs3 := List D → S3 → Mp → (S3 → Mp → Prop) → Prop
def upG (K : PySem.W.Frag) (cl : Cl) (g : TG3) : TG := fun v σ H Q => ∃ d s m, Rep K H d v ∧ RepS K H s σ ∧ Ab K cl H m ∧ g d s m (cS K cl H Q)
def upGs (K : PySem.W.Frag) (cl : Cl) (g : TGs3) : TGs := fun vs σ H Q => ∃ ds s m, Reps K H ds vs ∧ RepS K H s σ ∧ Ab K cl H m ∧ g ds s m (cS K cl H Q)
def MonoG (g : TG3) : Prop := ∀ d s m k k', (∀ s m, k s m → k' s m) → g d s m k → g d s m k'
def MonoGs (g : TGs3) : Prop := ∀ d s m k k', (∀ s m, k s m → k' s m) → g d s m k → g d s m k'
structure QG (X : Cx) (cl : Cl) (tg : Expr) (g : TG3) : Prop where
  mono : MonoG g
  run : PG X tg (upG X.K cl g)
structure QGs (X : Cx) (cl : Cl) (tg : List Expr) (g : TGs3) : Prop where
  mono : MonoGs g
  run : PGs X tg (upGs X.K cl g)
theorem PG.imp {t t' : TG} (h : PG X tg t) (i : ∀ v σ H Q, t' v σ H Q → t v σ H Q) : PG X tg t' := ⟨fun pins s σ H v u Q I r q => h.run pins s σ H v u Q I r (i v σ H Q q)⟩
theorem PGs.imp {t t' : TGs} (h : PGs X rest t) (i : ∀ v σ H Q, t' v σ H Q → t v σ H Q) : PGs X rest t' := ⟨fun pins s σ H v u Q I r q => h.run pins s σ H v u Q I r (i v σ H Q q)⟩
def gNm (i : Nat) : TG3 := fun d s m k => k (s.set i (some d)) m
theorem qg_name {i : Nat} {x : Str} (hN : X.N.Nodup) (hi : X.N[i]? = some x) (hx : Loc X.env.scope x) (hf : X.fn x = true ∨ X.env.scope.names.lookup x = some .local) : QG X cl (.Name x pos) (gNm i) :=
  ⟨fun d s m k k' hk h => hk _ _ h, PG.imp (pg_name hN hi hx hf) fun v σ H Q ⟨d, s, m, r, hs, hm, h⟩ => h _ H (hs.set r i) hm (Ext.refl H)⟩
def gs0 : TGs3 := fun ds s m k => ds = [] ∧ k s m
def gs1 (g : TG3) (gs : TGs3) : TGs3 := fun ds s m k => ∃ d r, ds = d :: r ∧ g d s m (fun s' m' => gs r s' m' k)
theorem qgs_nil : QGs X cl [] gs0 := ⟨fun d s m k k' hk ⟨e, h⟩ => ⟨e, hk _ _ h⟩, PGs.imp pgs_nil fun vs σ H Q ⟨ds, s, m, r, hs, hm, e, h⟩ => by
  subst e
  cases r
  exact ⟨rfl, h σ H hs hm (Ext.refl H)⟩⟩
theorem qgs_cons {g : TG3} {gs : TGs3} (h1 : QG X cl a g) (h2 : QGs X cl rest gs) (hs : (assignEach (a :: rest) X.env).map (·.2) = assign a X.env :: (assignEach rest X.env).map (·.2)) : QGs X cl (a :: rest) (gs1 g gs) :=
  ⟨fun ds s m k k' hk ⟨d, r, e, h⟩ => ⟨d, r, e, h1.mono _ _ _ _ _ (fun s' m' z => h2.mono _ _ _ _ _ hk z) h⟩, PGs.imp (pgs_cons h1.run h2.run hs) fun vs σ H Q ⟨ds, s, m, r, hs, hm, d, dr, e, h⟩ => by
    subst e
    obtain ⟨v, vr, rfl, r1, r2⟩ := r
    exact ⟨v, vr, rfl, d, s, m, r1, hs, hm, h1.mono _ _ _ _ _ (fun s' m' z σ' H' hs' hm' e' => ⟨dr, s', m', r2.mono e', hs', hm', h2.mono _ _ _ _ _ (fun _ _ w => cS_ext e' w) z⟩) h⟩⟩
/-- a, b, .. = a tuple of that length; = a list -/
def gTp (n : Nat) (gs : TGs3) : TG3 := fun d s m k => ∃ l, d = .tup l ∧ l.length = n ∧ gs l s m k
def gLs (n : Nat) (gs : TGs3) : TG3 := fun d s m k => ∃ q l, d = .ref q ∧ RL m q l ∧ l.length = n ∧ gs l s m k
theorem qg_tup {gs : TGs3} {n k : Nat} (hc : X.calm = true) (h : QGs X cl rest gs) (hn : (assignEach rest X.env).length = n) (hst : (assignEach rest X.env).findIdx? (·.1) = none) : QG X cl (.Tuple rest k pos) (gTp n gs) :=
  ⟨fun d s m k k' hk ⟨l, e, z, h'⟩ => ⟨l, e, z, h.mono _ _ _ _ _ hk h'⟩, PG.imp (pg_tup hc h.run hn hst) fun v σ H Q ⟨d, s, m, r, hs, hm, l, e, z, h'⟩ => by
    subst e
    obtain ⟨q, vs, rfl, q1, q2⟩ := r
    exact ⟨q, vs, rfl, q1, by rw [← q2.length]; exact z, l, s, m, q2, hs, hm, h'⟩⟩
theorem qg_lst {gs : TGs3} {n k : Nat} (hc : X.calm = true) (h : QGs X cl rest gs) (hn : (assignEach rest X.env).length = n) (hst : (assignEach rest X.env).findIdx? (·.1) = none) : QG X cl (.Tuple rest k pos) (gLs n gs) :=
  ⟨fun d s m k k' hk ⟨q, l, e, z, y, h'⟩ => ⟨q, l, e, z, y, h.mono _ _ _ _ _ hk h'⟩, PG.imp (pg_unl hc h.run hn hst) fun v σ H Q ⟨d, s, m, r, hs, hm, q, l, e, z, y, h'⟩ => by
    subst e
    have r' : v = .ref q := r
    obtain ⟨vs, q1, q2⟩ := hm.rl z
    exact ⟨q, vs, r', q1, by rw [← q2.length]; exact y, l, s, m, q2, hs, hm, h'⟩⟩

/-! ### what is walked -/
/-- from H0 on J walks l, while R stands -/
def Walk3 (K : PySem.W.Frag) (cl : Cl) (H0 : Hp) (J : It) (l : List D) (R : Mp → Prop) : Prop := ∀ i H m, Ext H0 H → Ab K cl H m → R m → i ≤ l.length →
  (i = l.length → J.stop i H) ∧ ∀ d, l[i]? = some d → J.go i H ∧ ∀ x H', J.yld i H x H' → Rep K H' d x ∧ Ab K cl H' m ∧ Ext H H'
abbrev TI3 := S3 → Mp → (List D → (Mp → Prop) → Mp → Prop) → X3 → Prop
def MonoI (T : TI3) : Prop := ∀ s m k k' x x', (∀ l R m, k l R m → k' l R m) → (∀ e m, x e m → x' e m) → T s m k x → T s m k' x'
def upI (K : PySem.W.Frag) (cl : Cl) (W : WX) (T : TI3) : TI := fun σ H R' => ∃ s m, RepS K H s σ ∧ Ab K cl H m ∧ T s m (fun l R m1 => ∀ J H1, Walk3 K cl H1 J l R → Ab K cl H1 m1 → Ext H H1 → R' J H1) (cX K cl W H σ)
structure QI (X : Cx) (cl : Cl) (W : WX) (tg e : Expr) (T : TI3) : Prop where
  mono : MonoI T
  run : PI X tg e (upI X.K cl W T)
theorem PI.imp {e : Expr} {t t' : TI} (h : PI X tg e t) (i : ∀ σ H Q, t' σ H Q → t σ H Q) : PI X tg e t' := ⟨fun pins s σ H Q I q => h.run pins s σ H Q I (i σ H Q q)⟩
theorem walk_list {q : Addr} {l : List D} {H0 : Hp} : Walk3 X.K cl H0 (Itl X.K q) l fun m => RL m q l := fun i H m e0 hm h hi => by
  obtain ⟨vs, q1, q2⟩ := hm.rl h
  refine ⟨fun e => ⟨vs, q1, by rw [← q2.length]; omega⟩, fun d hd => ?_⟩
  obtain ⟨v, e1, r1⟩ := q2.get hd
  refine ⟨⟨vs, v, q1, e1⟩, fun x H' ⟨eH, hx⟩ => ?_⟩
  subst eH
  have e2 := hx vs q1
  rw [e1] at e2; cases e2
  exact ⟨r1, hm, Ext.refl _⟩
theorem walk_tup {q : Addr} {l : List D} {vs : List V} {H0 : Hp} (h1 : SqT X.K H0 q vs) (h2 : Reps X.K H0 l vs) : Walk3 X.K cl H0 (Itt X.K q) l fun _ => True := fun i H m e0 hm _ hi => by
  have q1 := e0.sqT h1
  have q2 := h2.mono e0
  refine ⟨fun e => ⟨vs, q1, by rw [← q2.length]; omega⟩, fun d hd => ?_⟩
  obtain ⟨v, e1, r1⟩ := q2.get hd
  refine ⟨⟨vs, v, q1, e1⟩, fun x H' ⟨eH, hx⟩ => ?_⟩
  subst eH
  have e2 := hx vs q1
  rw [e1] at e2; cases e2
  exact ⟨r1, hm, Ext.refl _⟩
def signs (z : Str) : List D := z.cps.toList.map fun c => .str ⟨#[c]⟩
theorem walk_str {z : Str} {H0 : Hp} : Walk3 X.K cl H0 (Its z) (signs z) fun _ => True := fun i H m e0 hm _ hi => by
  have hl : (signs z).length = z.cps.size := by unfold signs; simp
  refine ⟨fun e => by rw [hl] at e; exact Nat.le_of_eq e.symm, fun d hd => ?_⟩
  have hi' : i < z.cps.size := by rw [← hl]; exact (List.getElem?_eq_some_iff.mp hd).1
  refine ⟨hi', fun x H' ⟨eH, c, hc, hx⟩ => ?_⟩
  subst eH hx
  unfold signs at hd
  rw [List.getElem?_map, Array.getElem?_toList, hc] at hd
  cases hd
  exact ⟨rfl, hm, Ext.refl _⟩
theorem repk_at {K : PySem.W.Frag} {H : Hp} : ∀ {kvs : List (Key × D)} {kws : List (Key × V)}, RepK K H kvs kws → kws.map (·.1) = kvs.map (·.1)
  | [], _, h => by cases h; rfl
  | (k, d) :: r, _, h => by
    obtain ⟨v, r', rfl, _, h3⟩ := h
    rw [List.map_cons, List.map_cons, repk_at h3]
/-- the keys of a locked dict -/
theorem walk_keys {q : Addr} {o : Obj} {kvs : List (Key × D)} {kws : List (Key × V)} {H0 : Hp} (h1 : H0 q = some (.frz o (.dK kws))) (h2 : RepK X.K H0 kvs kws) : Walk3 X.K cl H0 (Itk q o kws) (kvs.map fun e => keyD e.1) fun m => m q = some (.rdK kvs) := fun i H m e0 hm _ hi => by
  have hk := repk_at h2
  have hl : kws.length = kvs.length := by simpa using congrArg List.length hk
  rw [List.length_map] at hi
  refine ⟨fun e => ⟨e0.2 _ _ _ h1, by rw [List.length_map] at e; omega⟩, fun d hd => ?_⟩
  rw [List.getElem?_map] at hd
  cases ek : kvs[i]? with
  | none => rw [ek] at hd; cases hd
  | some p =>
    rw [ek] at hd
    cases hd
    have hlt : i < kvs.length := (List.getElem?_eq_some_iff.mp ek).1
    refine ⟨⟨e0.2 _ _ _ h1, by omega⟩, fun x H' ⟨eH, k, v, hx, ex⟩ => ?_⟩
    subst eH ex
    have e2 : (kws.map (·.1))[i]? = some k := by rw [List.getElem?_map, hx]; rfl
    rw [hk, List.getElem?_map, ek] at e2
    cases e2
    exact ⟨key_rep _, hm, Ext.refl _⟩
def itD : D → Mp → (List D → (Mp → Prop) → Mp → Prop) → Prop
  | .ref p, m, k => (∃ l, RL m p l ∧ k l (fun m' => RL m' p l) m) ∨ ∃ kvs : List (Key × D), m p = some (.rdK kvs) ∧ k (kvs.map fun e => keyD e.1) (fun m' => m' p = some (.rdK kvs)) m
  | .tup l, m, k => k l (fun _ => True) m
  | .str z, m, k => k (signs z) (fun _ => True) m
  | _, _, _ => False
theorem mono_itD {d : D} {m : Mp} {k k' : List D → (Mp → Prop) → Mp → Prop} (hk : ∀ l R m, k l R m → k' l R m) (h : itD d m k) : itD d m k' := by
  unfold itD at h ⊢
  split at h
  · rcases h with ⟨l, h1, h2⟩ | ⟨l, h1, h2⟩
    · exact .inl ⟨l, h1, hk _ _ _ h2⟩
    · exact .inr ⟨l, h1, hk _ _ _ h2⟩
  · exact hk _ _ _ h
  · exact hk _ _ _ h
  · exact h.elim
/-- a list, a tuple, a text, walked -/
def iSq (A : TE3) : TI3 := fun s m k x => A s m (fun d m1 => itD d m1 k) x
theorem qi_seq (ha : QE X cl W a A) : QI X cl W tg a (iSq A) := by
  refine ⟨fun s m k k' x x' hk hx h => ha.mono _ _ _ _ _ _ (fun d m1 z => mono_itD hk z) hx h, ⟨fun pins s0 σ H R' I h => ?_⟩⟩
  obtain ⟨s, m, hs, hm, h⟩ := h
  have hA : upE X.K cl W A σ H (fun v H1 => ∃ d m1, Rep X.K H1 d v ∧ Ab X.K cl H1 m1 ∧ Ext H H1 ∧ itD d m1 (fun l R m1 => ∀ J H1, Walk3 X.K cl H1 J l R → Ab X.K cl H1 m1 → Ext H H1 → R' J H1)) :=
    ⟨s, m, hs, hm, ha.mono _ _ _ _ _ _ (fun d m1 z v H1 r hm1 e1 => ⟨d, m1, r, hm1, e1, z⟩) (fun _ _ z => z) h⟩
  refine thn (ha.run.run pins s0 σ H _ I hA) fun u s1 ⟨v, H1, I1, rv, d, m1, r, hm1, e1, z⟩ => ?_
  unfold itD at z
  split at z
  · rename_i q
    have r' : v = .ref q := r
    subst r'
    cases rv
    rcases z with ⟨l, h1, h2⟩ | ⟨kvs, h1, h2⟩
    case' inr =>
      obtain ⟨o, kws, h3, h4⟩ := hm1.1 q _ h1
      obtain ⟨y1, y2, y3, y4, y5, y6, y7, y8, y9, y10⟩ := I1.frzK h3
      refine L2.iter_keys y1 y2 y3 y7 (pi_one (tk := s1.toks) I1 _ (turn_keys _ y7) ⟨_, Heap.get?_push_size _ rfl, rfl, ?_⟩ (h2 _ H1 (walk_keys h3 h4) hm1 e1))
      rw [y8] <;> rfl
    obtain ⟨vs, q1, q2⟩ := hm1.rl h1
    obtain ⟨its, ri, pl, _⟩ := I1.list q1
    exact wpAny_pyIter_list pl.isList (pi_one (tk := s1.toks) I1 _ (turn_list q _) ⟨_, Heap.get?_push_size _ rfl, rfl, rfl⟩ (h2 _ H1 walk_list hm1 e1))
  · rename_i l
    obtain ⟨q, vs, rfl, q1, q2⟩ := r
    cases rv
    obtain ⟨its, ri, pl, _⟩ := I1.tuple q1
    exact wpAny_pyIter_tuple (show s1.heap.IsTuple q its.toArray from pl) (pi_one (tk := s1.toks) I1 _ (turn_tuple q _) ⟨_, Heap.get?_push_size _ rfl, rfl, rfl⟩ (z _ H1 (walk_tup q1 q2) hm1 e1))
  · rename_i y
    have r' : v = .str y := r
    subst r'
    obtain ⟨t, rfl⟩ := rv
    have q := z _ H1 walk_str hm1 e1
    cases hy : y.cps.all (· < 128)
    · exact wpAny_pyIter_wide hy (pi_one (tk := s1.toks) I1 _ (turn_str _ y t "str_iterator" (.inr rfl)) ⟨_, Heap.get?_push_size _ rfl, rfl, rfl⟩ q)
    · exact wpAny_pyIter_ascii hy (pi_one (tk := s1.toks) I1 _ (turn_str _ y t "str_ascii_iterator" (.inl rfl)) ⟨_, Heap.get?_push_size _ rfl, rfl, rfl⟩ q)
  · exact z.elim
/-- range -/
def rngD (lo c : Int) (n : Nat) : List D := (List.range n).map fun i => .int (lo + (i : Nat) * c)
theorem rngD_get {lo c : Int} {n i : Nat} {d : D} (h : (rngD lo c n)[i]? = some d) : i < n ∧ d = .int (lo + (i : Nat) * c) := by
  unfold rngD at h
  rw [List.getElem?_map] at h
  cases e : (List.range n)[i]? with
  | none => rw [e] at h; cases h
  | some j =>
    rw [e] at h
    obtain ⟨h1, h2⟩ := List.getElem?_eq_some_iff.mp e
    rw [List.length_range] at h1
    rw [List.getElem_range] at h2
    subst h2
    exact ⟨h1, (Option.some.inj h).symm⟩
theorem rngD_length {lo c : Int} {n : Nat} : (rngD lo c n).length = n := by unfold rngD; simp
theorem walk_rng {lo : Int} {n : Nat} {H0 : Hp} : Walk3 X.K cl H0 (Itr lo n) (rngD lo 1 n) fun _ => True := fun i H m e0 hm _ hi => by
  refine ⟨fun e => by rw [rngD_length] at e; exact Nat.le_of_eq e.symm, fun d hd => ?_⟩
  obtain ⟨h1, h2⟩ := rngD_get hd
  refine ⟨h1, fun x H' ⟨eH, hx⟩ => ?_⟩
  subst eH hx h2
  rw [Int.mul_one]
  exact ⟨rfl, hm, Ext.refl _⟩
theorem walk_rngC {lo c : Int} {n : Nat} {H0 : Hp} : Walk3 X.K cl H0 (Itc lo c n) (rngD lo c n) fun _ => True := fun i H m e0 hm _ hi => by
  refine ⟨fun e => by rw [rngD_length] at e; exact Nat.le_of_eq e.symm, fun d hd => ?_⟩
  obtain ⟨h1, h2⟩ := rngD_get hd
  refine ⟨h1, fun x H' ⟨eH, hx⟩ => ?_⟩
  subst eH hx h2
  exact ⟨rfl, hm, Ext.refl _⟩
def B62 (i : Int) : Prop := -(2 ^ 62) ≤ i ∧ i < 2 ^ 62
def iR1 (R : TA3) : TI3 := fun s m k x => R s m (fun ds m1 => ∃ j : Int, ds = [.int j] ∧ B62 j ∧ k (rngD 0 1 j.toNat) (fun _ => True) m1) x
def iR2 (R : TA3) : TI3 := fun s m k x => R s m (fun ds m1 => ∃ i j : Int, ds = [.int i, .int j] ∧ B62 i ∧ B62 j ∧ k (rngD i 1 (j - i).toNat) (fun _ => True) m1) x
def iR3 (R : TA3) : TI3 := fun s m k x => R s m (fun ds m1 => ∃ (i j c : Int) (n : Nat), ds = [.int i, .int j, .int c] ∧ RgC i j c n ∧ k (rngD i c n) (fun _ => True) m1) x
theorem qi_rng1 (hg : Gl X "range") (hm : X.mg "range" = none) (ha : QA X cl W [a] R) (hs : starEach [a] X.env = [(false, eval a X.env)]) : QI X cl W tg (.Call (.Name "range" p) [a] [] pos) (iR1 R) :=
  ⟨fun s m k k' x x' hk hx h => ha.mono _ _ _ _ _ _ (fun ds m1 ⟨j, e, z, w⟩ => ⟨j, e, z, hk _ _ _ w⟩) hx h,
   PI.imp (pi_range1 hg hm ha.run hs) fun σ H Q ⟨s, m, h1, h2, h⟩ => ⟨s, m, h1, h2, ha.mono _ _ _ _ _ _ (fun ds m1 ⟨j, e, z, w⟩ vs H1 r hm1 e1 => by
    subst e
    obtain ⟨v, rfl, q⟩ := reps1 r
    cases q
    exact ⟨j, rfl, z.1, z.2, w _ H1 walk_rng hm1 e1⟩) (fun _ _ z => z) h⟩⟩
theorem qi_rng2 (hg : Gl X "range") (hm : X.mg "range" = none) (ha : QA X cl W [a, b] R) (hs : starEach [a, b] X.env = [(false, eval a X.env), (false, eval b X.env)]) (hs2 : starEach [b] X.env = [(false, eval b X.env)]) : QI X cl W tg (.Call (.Name "range" p) [a, b] [] pos) (iR2 R) :=
  ⟨fun s m k k' x x' hk hx h => ha.mono _ _ _ _ _ _ (fun ds m1 ⟨i, j, e, z, y, w⟩ => ⟨i, j, e, z, y, hk _ _ _ w⟩) hx h,
   PI.imp (pi_range2 hg hm ha.run hs hs2) fun σ H Q ⟨s, m, h1, h2, h⟩ => ⟨s, m, h1, h2, ha.mono _ _ _ _ _ _ (fun ds m1 ⟨i, j, e, z, y, w⟩ vs H1 r hm1 e1 => by
    subst e
    obtain ⟨v, v', rfl, q, q'⟩ := reps2 r
    cases q
    cases q'
    exact ⟨i, j, rfl, ⟨z.1, z.2, y.1, y.2⟩, w _ H1 walk_rng hm1 e1⟩) (fun _ _ z => z) h⟩⟩
theorem reps3 {K : PySem.W.Frag} {H : Hp} {d e f : D} {vs : List V} (h : Reps K H [d, e, f] vs) : ∃ v w u, vs = [v, w, u] ∧ Rep K H d v ∧ Rep K H e w ∧ Rep K H f u := by
  obtain ⟨v, r, rfl, h1, h2⟩ := h
  obtain ⟨w, u, rfl, h3, h4⟩ := reps2 h2
  exact ⟨v, w, u, rfl, h1, h3, h4⟩
theorem qi_rng3 (hg : Gl X "range") (hm : X.mg "range" = none) (ha : QA X cl W [a, b, c] R) (hs : starEach [a, b, c] X.env = (false, eval a X.env) :: starEach [b, c] X.env) (hpl : (backTo pos (starEach [b, c] X.env)).any (·.1) = false) : QI X cl W tg (.Call (.Name "range" p) [a, b, c] [] pos) (iR3 R) :=
  ⟨fun s m k k' x x' hk hx h => ha.mono _ _ _ _ _ _ (fun ds m1 ⟨i, j, c, n, e, z, w⟩ => ⟨i, j, c, n, e, z, hk _ _ _ w⟩) hx h,
   PI.imp (pi_range3 hg hm ha.run hs hpl) fun σ H Q ⟨s, m, h1, h2, h⟩ => ⟨s, m, h1, h2, ha.mono _ _ _ _ _ _ (fun ds m1 ⟨i, j, c, n, e, z, w⟩ vs H1 r hm1 e1 => by
    subst e
    obtain ⟨v, v', v2, rfl, q, q', q2⟩ := reps3 r
    cases q
    cases q'
    cases q2
    exact ⟨i, j, c, n, rfl, z, w _ H1 walk_rngC hm1 e1⟩) (fun _ _ z => z) h⟩⟩
/-- zip of two lists, of two tuples -/
def zipD (l r : List D) : List D := (l.zip r).map fun p => .tup [p.1, p.2]
theorem zipD_get {l r : List D} {i : Nat} {d : D} (h : (zipD l r)[i]? = some d) : ∃ x y, l[i]? = some x ∧ r[i]? = some y ∧ d = .tup [x, y] := by
  unfold zipD at h
  rw [List.getElem?_map] at h
  cases e : (l.zip r)[i]? with
  | none => rw [e] at h; cases h
  | some p =>
    rw [e] at h
    obtain ⟨h1, h2⟩ := List.getElem?_zip_eq_some.mp e
    exact ⟨p.1, p.2, h1, h2, (Option.some.inj h).symm⟩
theorem zipD_length {l r : List D} : (zipD l r).length = min l.length r.length := by unfold zipD; simp
theorem walk_zip {q q' : Addr} {l r : List D} {H0 : Hp} : Walk3 X.K cl H0 (Itz X.K q q') (zipD l r) fun m => RL m q l ∧ RL m q' r := fun i H m e0 hm ⟨h, h'⟩ hi => by
  obtain ⟨vs, q1, q2⟩ := hm.rl h
  obtain ⟨ws, q3, q4⟩ := hm.rl h'
  refine ⟨fun e => ⟨vs, ws, q1, q3, by rw [zipD_length] at e; rw [← q2.length, ← q4.length]; omega⟩, fun d hd => ?_⟩
  obtain ⟨x, y, h1, h2, rfl⟩ := zipD_get hd
  obtain ⟨v, e1, r1⟩ := q2.get h1
  obtain ⟨w, e2, r2⟩ := q4.get h2
  refine ⟨⟨vs, ws, v, w, q1, q3, e1, e2⟩, fun z H' ⟨T, a, b, ez, hT, eH, ha, hb⟩ => ?_⟩
  subst ez eH
  have f1 := ha vs q1
  have f2 := hb ws q3
  rw [e1] at f1; cases f1
  rw [e2] at f2; cases f2
  exact ⟨rep_tup hT ⟨_, _, rfl, r1, _, _, rfl, r2, rfl⟩, hm.hid hT, Ext.new hT⟩
theorem walk_zipT {q q' : Addr} {l r : List D} {vs ws : List V} {H0 : Hp} (h1 : SqT X.K H0 q vs) (h2 : Reps X.K H0 l vs) (h3 : SqT X.K H0 q' ws) (h4 : Reps X.K H0 r ws) : Walk3 X.K cl H0 (RZ.ItzT X.K q q') (zipD l r) fun _ => True := fun i H m e0 hm _ hi => by
  have q1 := e0.sqT h1
  have q2 := h2.mono e0
  have q3 := e0.sqT h3
  have q4 := h4.mono e0
  refine ⟨fun e => ⟨vs, ws, q1, q3, by rw [zipD_length] at e; rw [← q2.length, ← q4.length]; omega⟩, fun d hd => ?_⟩
  obtain ⟨x, y, h1, h2, rfl⟩ := zipD_get hd
  obtain ⟨v, e1, r1⟩ := q2.get h1
  obtain ⟨w, e2, r2⟩ := q4.get h2
  refine ⟨⟨vs, ws, v, w, q1, q3, e1, e2⟩, fun z H' ⟨T, a, b, ez, hT, eH, ha, hb⟩ => ?_⟩
  subst ez eH
  have f1 := ha vs q1
  have f2 := hb ws q3
  rw [e1] at f1; cases f1
  rw [e2] at f2; cases f2
  exact ⟨rep_tup hT ⟨_, _, rfl, r1, _, _, rfl, r2, rfl⟩, hm.hid hT, Ext.new hT⟩
def iZp (R : TA3) : TI3 := fun s m k x => R s m (fun ds m1 => (∃ q q' l r, ds = [.ref q, .ref q'] ∧ RL m1 q l ∧ RL m1 q' r ∧ k (zipD l r) (fun m => RL m q l ∧ RL m q' r) m1) ∨ ∃ l r, ds = [.tup l, .tup r] ∧ k (zipD l r) (fun _ => True) m1) x
theorem qi_zip {elts : List Expr} {kk : Nat} {tpos : Pos} (hg : Gl X "zip") (hm : X.mg "zip" = none) (ha : QA X cl W [a, b] R) (hs : starEach [a, b] X.env = (false, eval a X.env) :: starEach [b] X.env) (hpl : (backTo pos (starEach [b] X.env)).any (·.1) = false) :
    QI X cl W (.Tuple elts kk tpos) (.Call (.Name "zip" p) [a, b] [] pos) (iZp R) :=
  ⟨fun s m k k' x x' hk hx h => ha.mono _ _ _ _ _ _ (fun ds m1 z => by
      rcases z with ⟨q, q', l, r, e, z1, z2, w⟩ | ⟨l, r, e, w⟩
      · exact .inl ⟨q, q', l, r, e, z1, z2, hk _ _ _ w⟩
      · exact .inr ⟨l, r, e, hk _ _ _ w⟩) hx h,
   PI.imp (RZ.pi_zipA hg hm ha.run hs hpl) fun σ H Q ⟨s, m, h1, h2, h⟩ => ⟨s, m, h1, h2, ha.mono _ _ _ _ _ _ (fun ds m1 z vs H1 r hm1 e1 => by
    rcases z with ⟨q, q', l, r', e, z1, z2, w⟩ | ⟨l, r', e, w⟩
    · subst e
      obtain ⟨v, v', rfl, y, y'⟩ := reps2 r
      cases y
      cases y'
      obtain ⟨us, q1, _⟩ := hm1.rl z1
      obtain ⟨ws, q2, _⟩ := hm1.rl z2
      exact ⟨q, q', us, ws, rfl, .inl ⟨q1, q2, w _ H1 walk_zip hm1 e1⟩⟩
    · subst e
      obtain ⟨v, v', rfl, ⟨q, us, rfl, q1, q2⟩, ⟨q', ws, rfl, q3, q4⟩⟩ := reps2 r
      exact ⟨q, q', us, ws, rfl, .inr ⟨q1, q3, w _ H1 (walk_zipT q1 q2 q3 q4) hm1 e1⟩⟩) (fun _ _ z => z) h⟩⟩
end
end PV

/-! Statements, comprehensions, a def's promise. -/
namespace PV
open PySem L2 PyProof.Rows
section
variable {X : Cx} {cl : Cl} {W : WX} {a b c tg : Expr} {A B C : TE3} {rest : List Expr} {R : TA3} {pos p : Pos} {st : Stmt} {sts sts' : List Stmt} {S S' : TS3}

theorem ex_cX {K : PySem.W.Frag} {H : Hp} {s : S3} {σ : L2.St} {D : Ends} (hs : RepS K H s σ) {x : Xc} {m : Mp} (h : (cN K cl W H D).ex s x m) : cX K cl W H σ x m := fun c dd H' r a e => h σ c dd H' (hs.mono e) r a e

theorem MonoS.to {S : TS3} (h : MonoS S) {s : S3} {m : Mp} {D D' : N3} (q : S D s m) (l : N3.Le D D') : S D' s m := h _ _ _ _ l q
theorem MonoG.to {g : TG3} (h : MonoG g) {d : D} {s : S3} {m : Mp} {k k' : S3 → Mp → Prop} (q : g d s m k) (l : ∀ s m, k s m → k' s m) : g d s m k' := h _ _ _ _ _ l q
/-! ### blocks, small statements -/
def sNil : TS3 := fun D s m => D.nx s m
def sSeq (t u : TS3) : TS3 := fun D s m => t { D with nx := fun s' m' => u D s' m' } s m
/-- .. where ways meet -/
def sSeqJ (t u : TS3) : TS3 := sSeq t u
theorem N3.Le.nx_of {D D' : N3} (h : N3.Le D D') {n n' : S3 → Mp → Prop} (q : ∀ s m, n s m → n' s m) : N3.Le { D with nx := n } { D' with nx := n' } := ⟨q, h.rt, h.bk, h.ct, h.ex⟩
theorem N3.Le.refl (D : N3) : N3.Le D D := ⟨fun _ _ h => h, fun _ _ h => h, fun _ _ h => h, fun _ _ h => h, fun _ _ _ h => h⟩
theorem mono_seq (h : MonoS S) (h' : MonoS S') : MonoS (sSeq S S') := fun s m D D' l q => h _ _ _ _ (l.nx_of fun s' m' z => h' _ _ _ _ l z) q
theorem qb_nil : QB X cl W [] sNil := ⟨fun s m D D' l q => l.nx _ _ q, PSs.imp pss_nil fun D σ H ⟨s, m, hs, hm, q⟩ => q σ H hs hm (Ext.refl H)⟩
theorem qb_one (h : QS X cl W st S) : QB X cl W [st] S := ⟨h.mono, pss_one h.run⟩
theorem qb_cons (h : QS X cl W st S) (h' : QB X cl W sts S') : QB X cl W (st :: sts) (sSeq S S') :=
  ⟨mono_seq h.mono h'.mono, PSs.imp (pss_cons h.run h'.run) fun D σ H ⟨s, m, hs, hm, q⟩ => ⟨s, m, hs, hm, h.mono.to q
    ⟨fun s' m' z σ' H' hs' hm' e => ⟨s', m', hs', hm', h'.mono.to z (cN_ext e)⟩, fun _ _ z => z, fun _ _ z => z, fun _ _ z => z, fun _ _ _ z => z⟩⟩⟩
theorem qb_consJ (h : QS X cl W st S) (h' : QB X cl W sts S') : QB X cl W (st :: sts) (sSeqJ S S') := qb_cons h h'
/-- a way that is not gone -/
def sNo : TS3 := fun _ _ _ => False
theorem qs_no : QS X cl W st sNo := ⟨fun _ _ _ _ _ h => h, PS.imp ps_never fun D σ H ⟨s, m, hs, hm, q⟩ => q⟩
theorem qb_no : QB X cl W sts sNo := ⟨fun _ _ _ _ _ h => h, PSs.imp pss_never fun D σ H ⟨s, m, hs, hm, q⟩ => q⟩
def sBrk : TS3 := fun D s m => D.bk s m
def sCnt : TS3 := fun D s m => D.ct s m
theorem qs_pass : QS X cl W (.Pass pos) sNil := ⟨fun s m D D' l q => l.nx _ _ q, PS.imp ps_pass fun D σ H ⟨s, m, hs, hm, q⟩ => q σ H hs hm (Ext.refl H)⟩
theorem qs_brk : QS X cl W (.Break pos) sBrk := ⟨fun s m D D' l q => l.bk _ _ q, PS.imp ps_break fun D σ H ⟨s, m, hs, hm, q⟩ => q σ H hs hm (Ext.refl H)⟩
theorem qs_cnt : QS X cl W (.Continue pos) sCnt := ⟨fun s m D D' l q => l.ct _ _ q, PS.imp ps_continue fun D σ H ⟨s, m, hs, hm, q⟩ => q σ H hs hm (Ext.refl H)⟩
def sExp (A : TE3) : TS3 := fun D s m => A s m (fun _ m1 => D.nx s m1) (D.ex s)
theorem qs_exp (h : QE X cl W a A) (hs : swapsWith a none pos.line X.env = pure false) : QS X cl W (.Expr a pos) (sExp A) :=
  ⟨fun s m D D' l q => h.mono _ _ _ _ _ _ (fun _ _ z => l.nx _ _ z) (fun _ _ z => l.ex _ _ _ z) q,
   PS.imp (ps_expr h.run hs) fun D σ H ⟨s, m, hs, hm, q⟩ => ⟨s, m, hs, hm, h.mono _ _ _ _ _ _ (fun d m1 z v H1 r hm1 e1 => z σ H1 (hs.mono e1) hm1 e1) (fun _ _ z => ex_cX hs z) q⟩⟩
theorem qs_doc {x j} {pos' : Pos} : QS X cl W (.Expr (.Constant (.str x) j pos) pos') sNil := ⟨fun s m D D' l q => l.nx _ _ q, PS.imp ps_doc fun D σ H ⟨s, m, hs, hm, q⟩ => q σ H hs hm (Ext.refl H)⟩
def sRet (A : TE3) : TS3 := fun D s m => A s m D.rt (D.ex s)
theorem qs_ret (h : QE X cl W a A) : QS X cl W (.Return (some a) pos) (sRet A) :=
  ⟨fun s m D D' l q => h.mono _ _ _ _ _ _ (fun _ _ z => l.rt _ _ z) (fun _ _ z => l.ex _ _ _ z) q,
   PS.imp (ps_ret h.run) fun D σ H ⟨s, m, hs, hm, q⟩ => ⟨s, m, hs, hm, h.mono _ _ _ _ _ _ (fun d m1 z => z) (fun _ _ z => ex_cX hs z) q⟩⟩
def sRetN : TS3 := fun D _ m => D.rt .non m
theorem qs_retN : QS X cl W (.Return none pos) sRetN := ⟨fun s m D D' l q => l.rt _ _ q, PS.imp ps_retN fun D σ H ⟨s, m, hs, hm, q⟩ => q _ H rfl hm (Ext.refl H)⟩
def sAsg (A : TE3) (g : TG3) : TS3 := fun D s m => A s m (fun d m1 => g d s m1 D.nx) (D.ex s)
theorem qs_asg {g : TG3} (h : QE X cl W a A) (hg : QG X cl tg g) (hs : swapsWithSole [tg] a pos.line X.env = pure false) (hw : swappedStores [tg] a X.env = pure none) (h1 : (assignEach [tg] X.env).map (·.2) = [assign tg X.env]) :
    QS X cl W (.Assign [tg] a pos) (sAsg A g) :=
  ⟨fun s m D D' l q => h.mono _ _ _ _ _ _ (fun _ _ z => hg.mono _ _ _ _ _ l.nx z) (fun _ _ z => l.ex _ _ _ z) q,
   PS.imp (ps_asg h.run hg.run hs hw h1) fun D σ H ⟨s, m, hs, hm, q⟩ => ⟨s, m, hs, hm, h.mono _ _ _ _ _ _ (fun d m1 z v H1 r hm1 e1 =>
    ⟨d, s, m1, r, hs.mono e1, hm1, hg.mono _ _ _ _ _ (fun _ _ w => cS_ext e1 w) z⟩) (fun _ _ z => ex_cX hs z) q⟩⟩
/-- a, b = x, y: two names -/
def sPar (i j : Nat) (R : TA3) : TS3 := fun D s m => R s m (fun ds m1 => ∃ u v, ds = [u, v] ∧ D.nx ((s.set i (some u)).set j (some v)) m1) (D.ex s)
theorem qs_par {i j : Nat} {x y : Str} {a b : Expr} {R : TA3} {px py pt : Pos} {kt k2 pt2} (hc : X.calm = true) (hN : X.N.Nodup) (hi : X.N[i]? = some x) (hj : X.N[j]? = some y) (hij : i ≠ j)
    (hx : X.env.scope.names.lookup x = some .local) (hy : X.env.scope.names.lookup y = some .local) (h : QA X cl W [a, b] R)
    (hw : swappedStores [.Tuple [.Name x px, .Name y py] kt pt] (.Tuple [a, b] k2 pt2) X.env = pure (some [x, y]))
    (hs : swapsWithSole [.Tuple [.Name x px, .Name y py] kt pt] (.Tuple [a, b] k2 pt2) pos.line X.env = pure false) :
    QS X cl W (.Assign [.Tuple [.Name x px, .Name y py] kt pt] (.Tuple [a, b] k2 pt2) pos) (sPar i j R) :=
  ⟨fun s m D D' l q => h.mono _ _ _ _ _ _ (fun _ _ ⟨u, v, e, z⟩ => ⟨u, v, e, l.nx _ _ z⟩) (fun _ _ z => l.ex _ _ _ z) q,
   PS.imp (ps_par hc hN hi hj hij hx hy h.run hw hs) fun D σ H ⟨s, m, hs, hm, q⟩ => ⟨s, m, hs, hm, h.mono _ _ _ _ _ _ (fun ds m1 ⟨u, v, e, z⟩ vs H1 r hm1 e1 => by
    subst e
    obtain ⟨v1, v2, rfl, q1, q2⟩ := reps2 r
    exact ⟨v1, v2, rfl, z _ H1 (((hs.mono e1).set q1 i).set q2 j) hm1 e1⟩) (fun _ _ z => ex_cX hs z) q⟩⟩
def sIf (t : TT3) (u v : TS3) : TS3 := fun D s m => t s m (fun b m1 => if b = true then u D s m1 else v D s m1) (D.ex s)
theorem qs_if {t : TT3} (ht : QT X cl W c t) (h : QB X cl W sts S) (h' : QB X cl W sts' S') : QS X cl W (.If c sts sts' pos) (sIf t S S') :=
  ⟨fun s m D D' l q => ht.mono _ _ _ _ _ _ (fun b m1 z => by
      cases b with
      | true => exact h.mono _ _ _ _ l z
      | false => exact h'.mono _ _ _ _ l z) (fun _ _ z => l.ex _ _ _ z) q,
   PS.imp (ps_if ht.run h.run h'.run) fun D σ H ⟨s, m, hs, hm, q⟩ => ⟨s, m, hs, hm, ht.mono _ _ _ _ _ _ (fun b m1 z H1 hm1 e1 => by
    cases b with
    | true => exact ⟨s, m1, hs.mono e1, hm1, h.mono _ _ _ _ (cN_ext e1) z⟩
    | false => exact ⟨s, m1, hs.mono e1, hm1, h'.mono _ _ _ _ (cN_ext e1) z⟩) (fun _ _ z => ex_cX hs z) q⟩⟩
/-- x op= e -/
def sAug (i : Nat) (A : TE3) (f : D → D → Mp → K3 → Prop) : TS3 := fun D s m => ∃ u, s[i]? = some (some u) ∧ A s m (fun v m1 => f u v m1 (fun d m2 => D.nx (s.set i (some d)) m2)) (D.ex s)
theorem qs_aug {i : Nat} {x : Str} {op : Operator} {f : D → D → Mp → K3 → Prop} {r : R2} {pos' : Pos} (hN : X.N.Nodup) (hi : X.N[i]? = some x) (hx : Loc X.env.scope x) (hfn : X.fn x = true ∨ X.env.scope.names.lookup x = some .local)
    (ho : PIp X op r) (hf : ∀ (H : Hp) (m : Mp) (u v : D) (x y : V) (Q : VK), Rep X.K H u x → Rep X.K H v y → Ab X.K cl H m → f u v m (cE X.K cl H Q) → r x y H Q) (mf : MonoF f) (h : QE X cl W a A) :
    QS X cl W (.AugAssign (.Name x pos') op a pos) (sAug i A f) :=
  ⟨fun s m D D' l ⟨u, e, q⟩ => ⟨u, e, h.mono _ _ _ _ _ _ (fun v m1 z => mf _ _ _ _ _ (fun d m2 w => l.nx _ _ w) z) (fun _ _ z => l.ex _ _ _ z) q⟩,
   PS.imp (ps_aug hN hi hx h.run ho hfn) fun D σ H ⟨s, m, hs, hm, u, e, q⟩ => by
    obtain ⟨x, e1, r1⟩ := hs.2 _ _ e
    refine ⟨x, e1, s, m, hs, hm, h.mono _ _ _ _ _ _ (fun v m1 z y H1 ry hm1 ee => ?_) (fun _ _ z => ex_cX hs z) q⟩
    exact hf H1 m1 u v x y _ (r1.mono ee) ry hm1 (mf _ _ _ _ _ (fun d m2 w w' H2 r2 hm2 e2 => w _ H2 ((hs.mono (ee.trans e2)).set r2 i) hm2 (ee.trans e2)) z)⟩
theorem aug_add {i : Nat} {x : Str} {pos' : Pos} (hN : X.N.Nodup) (hi : X.N[i]? = some x) (hx : Loc X.env.scope x) (hfn : X.fn x = true ∨ X.env.scope.names.lookup x = some .local) (h : QE X cl W a A) :
    QS X cl W (.AugAssign (.Name x pos') .Add a pos) (sAug i A (fI CT fun i j => .int (i + j))) := qs_aug hN hi hx hfn iop_add (up_I0 fun _ _ _ => rfl) mono_fI h
theorem aug_sub {i : Nat} {x : Str} {pos' : Pos} (hN : X.N.Nodup) (hi : X.N[i]? = some x) (hx : Loc X.env.scope x) (hfn : X.fn x = true ∨ X.env.scope.names.lookup x = some .local) (h : QE X cl W a A) :
    QS X cl W (.AugAssign (.Name x pos') .Sub a pos) (sAug i A (fI CT fun i j => .int (i - j))) := qs_aug hN hi hx hfn iop_sub (up_I0 fun _ _ _ => rfl) mono_fI h
/-- o[i] = e of a list -/
def fSet (o i v : D) (m : Mp) (k : Mp → Prop) : Prop := (∃ q l n j, o = .ref q ∧ i = .int n ∧ m q = some (.lst l) ∧ ixN l.length n = some j ∧ k (mset m q (.lst (l.set j v)))) ∨
  ∃ q kvs y, o = .ref q ∧ i = keyD y ∧ m q = some (.dK kvs) ∧ kvs.length < sizeLine ∧ k (mset m q (.dK (putD kvs y v)))
theorem pset_or {t t' : TSet} (h : PSet X t) (h' : PSet X t') : PSet X (fun o i v H Q => t o i v H Q ∨ t' o i v H Q) := by
  intro pins s σ H o i v ov iv u Q I ro ri rv q
  rcases q with q | q
  · exact h pins s σ H o i v ov iv u Q I ro ri rv q
  · exact h' pins s σ H o i v ov iv u Q I ro ri rv q
def sSub (O I V : TE3) : TS3 := fun D s m => V s m (fun v m1 => O s m1 (fun o m2 => I s m2 (fun i m3 => fSet o i v m3 (D.nx s)) (D.ex s)) (D.ex s)) (D.ex s)
theorem ix_lt {n : Nat} {i : Int} {j : Nat} (h : ixN n i = some j) : j < n := (ixN_seq h).2.1
theorem qs_sub {O I : TE3} {tpos : Pos} (hu : X.A.units + 64 < cLine) (hv : QE X cl W a A) (ho : QE X cl W b O) (hi : QE X cl W c I)
    (ha : ∀ v, assign (.Subscript b c tpos) X.env v = (do
      let ov ← holding [v] (eval b X.env)
      let iv ← holding [v, ov] (eval c X.env)
      standAt tpos
      holding [v, ov, iv] (setItem ov iv v)
      release [v, ov, iv] []))
    (hs : swapsWithSole [.Subscript b c tpos] a pos.line X.env = pure false) (hw : swappedStores [.Subscript b c tpos] a X.env = pure none) (h1 : (assignEach [.Subscript b c tpos] X.env).map (·.2) = [assign (.Subscript b c tpos) X.env]) :
    QS X cl W (.Assign [.Subscript b c tpos] a pos) (sSub O I A) := by
  refine ⟨fun s m D D' l q => hv.mono _ _ _ _ _ _ (fun v m1 z => ho.mono _ _ _ _ _ _ (fun o m2 y => hi.mono _ _ _ _ _ _ (fun i m3 z => by
      rcases z with ⟨p, ls, n, j, e1, e2, e3, e4, w⟩ | ⟨p, ls, n, e1, e2, e3, e4, w⟩
      · exact .inl ⟨p, ls, n, j, e1, e2, e3, e4, l.nx _ _ w⟩
      · exact .inr ⟨p, ls, n, e1, e2, e3, e4, l.nx _ _ w⟩) (fun _ _ z => l.ex _ _ _ z) y) (fun _ _ z => l.ex _ _ _ z) z) (fun _ _ z => l.ex _ _ _ z) q, ?_⟩
  refine PS.imp (ps_asg hv.run (pg_sub ho.run hi.run (pset_or set_list (set_dict (by omega))) ha) hs hw h1) fun D σ H ⟨s, m, hs, hm, q⟩ => ?_
  refine ⟨s, m, hs, hm, hv.mono _ _ _ _ _ _ (fun v m1 z x H1 rx hm1 e1 => ?_) (fun _ _ z => ex_cX hs z) q⟩
  refine ⟨s, m1, hs.mono e1, hm1, ho.mono _ _ _ _ _ _ (fun o m2 y xo H2 ro hm2 e2 => ?_) (fun _ _ z => cX_ext e1 (ex_cX hs z)) z⟩
  refine ⟨s, m2, hs.mono (e1.trans e2), hm2, hi.mono _ _ _ _ _ _ (fun i m3 w xi H3 ri hm3 e3 => ?_) (fun _ _ z => cX_ext (e1.trans e2) (ex_cX hs z)) y⟩
  rcases w with ⟨q, ls, n, j, rfl, rfl, e4, e5, w⟩ | ⟨q, kvs, n, rfl, rfl, e4, e5, w⟩
  · have ro' : xo = .ref q := ro
    have ri' : xi = .int n := ri
    obtain ⟨vs, q1, q2⟩ := hm3.1 q _ e4
    refine .inl ⟨q, vs, n, j, ro', ri', q1, by rw [← q2.length]; exact e5, ?_⟩
    have ex := ext_lst (u := .lst (vs.set j x)) q1
    exact w σ _ (hs.mono (((e1.trans e2).trans e3).trans ex)) (put_lst hm3 q1 (q2.set (rx.mono (e2.trans e3)) j)) (((e1.trans e2).trans e3).trans ex)
  · have ro' : xo = .ref q := ro
    have ri' := rep_key ri
    subst ri'
    obtain ⟨vs, q1, q2⟩ := hm3.1 q _ e4
    have ex := ext_dK (u := .dK (putK vs n x)) q1
    refine .inr ⟨q, _, ro', DPut.k q1 (by rw [← q2.length]; exact e5), ?_⟩
    exact w σ _ (hs.mono (((e1.trans e2).trans e3).trans ex)) (hm3.put ex ⟨_, upd_same, (q2.put (rx.mono (e2.trans e3))).mono ex⟩) (((e1.trans e2).trans e3).trans ex)

/-! ### loops -/
def sWhl (t : TT3) (u : TS3) : TS3 := fun D s m => ∃ P : Nat → S3 → Mp → Prop, (∃ n, P n s m) ∧ ∀ n s m, P n s m → t s m (fun b m1 => if b = true then u { D with nx := fun s' m' => ∃ n', n' < n ∧ P n' s' m', ct := fun s' m' => ∃ n', n' < n ∧ P n' s' m', bk := D.nx } s m1 else D.nx s m1) (D.ex s)
theorem qs_whl {t : TT3} (hp : PassesOwn (model X.prog X.w) X.A X.env X.xe) (ht : QT X cl W c t) (h : QB X cl W sts S) : QS X cl W (.While c sts [] pos) (sWhl t S) := by
  refine ⟨fun s m D D' l ⟨P, h0, hs⟩ => ⟨P, h0, fun n s m q => ht.mono _ _ _ _ _ _ (fun b m1 z => ?_) (fun _ _ z => l.ex _ _ _ z) (hs n s m q)⟩, ?_⟩
  · cases b with
    | true => exact h.mono.to z ⟨fun _ _ w => w, l.rt, l.nx, fun _ _ w => w, l.ex⟩
    | false => exact l.nx _ _ z
  · refine PS.imp (ps_while hp ht.run h.run) fun D σ H ⟨s, m, hs, hm, P, ⟨n0, h0⟩, q⟩ => ?_
    refine ⟨fun n σ' H' => ∃ s m, RepS X.K H' s σ' ∧ Ab X.K cl H' m ∧ Ext H H' ∧ P n s m, ⟨n0, s, m, hs, hm, Ext.refl H, h0⟩, ?_⟩
    rintro n σ1 H1 ⟨s1, m1, hs1, hm1, e1, p1⟩
    refine ⟨s1, m1, hs1, hm1, ht.mono _ _ _ _ _ _ (fun b m2 z H2 hm2 e2 => ?_) (fun _ _ z => ex_cX hs1 ((cN_ext e1).ex _ _ _ z)) (q n s1 m1 p1)⟩
    cases b with
    | true =>
      refine ⟨fun σ' H' => ∃ s m, RepS X.K H' s σ' ∧ Ab X.K cl H' m ∧ Ext H H' ∧ ∃ n', n' < n ∧ P n' s m, fun σ' H' ⟨s', m', a1, a2, a3, n', a4, a5⟩ => ⟨n', a4, s', m', a1, a2, a3, a5⟩, s1, m2, hs1.mono e2, hm2, ?_⟩
      have e12 := e1.trans e2
      exact h.mono.to z ⟨fun s' m' w σ' H' a1 a2 a3 => ⟨s', m', a1, a2, e12.trans a3, w⟩, fun _ _ w => cE_ext e12 w, fun _ _ w => cS_ext e12 w, fun s' m' w σ' H' a1 a2 a3 => ⟨s', m', a1, a2, e12.trans a3, w⟩,
        fun _ _ _ w => (cN_ext e12).ex _ _ _ w⟩
    | false => exact z σ1 H2 (hs1.mono e2) hm2 (e1.trans e2)
def sFor (it : TI3) (g : TG3) (u : TS3) : TS3 := fun D s m => it s m (fun l R m1 => ∃ P : Nat → S3 → Mp → Prop, P 0 s m1 ∧ (∀ i s m, i ≤ l.length → P i s m → R m) ∧
  (∀ i d s m, l[i]? = some d → P i s m → g d s m (fun s2 m2 => u { D with nx := P (i + 1), ct := P (i + 1), bk := D.nx } s2 m2)) ∧ ∀ s m, P l.length s m → D.nx s m) (D.ex s)
theorem qs_for {it : TI3} {g : TG3} (hp : PassesOwn (model X.prog X.w) X.A X.env X.xe) (hc : X.calm = true) (hi : QI X cl W tg a it) (hg : QG X cl tg g) (h : QB X cl W sts S)
    (hs : ∀ x, foldedSetIterable a X.env x = pure x) : QS X cl W (.For tg a sts [] pos) (sFor it g S) := by
  refine ⟨fun s m D D' l q => hi.mono _ _ _ _ _ _ (fun ls R m1 ⟨P, h0, h1, h2, h3⟩ => ⟨P, h0, h1, fun i d s m e p => hg.mono.to (h2 i d s m e p) (fun s2 m2 w => h.mono.to w ⟨fun _ _ w => w, l.rt, l.nx, fun _ _ w => w, l.ex⟩), fun s m p => l.nx _ _ (h3 s m p)⟩) (fun _ _ z => l.ex _ _ _ z) q, ?_⟩
  refine PS.imp (ps_for hp hc hi.run hg.run h.run hs) fun D σ H ⟨s, m, hs, hm, q⟩ => ?_
  refine ⟨s, m, hs, hm, hi.mono _ _ _ _ _ _ (fun ls R m1 ⟨P, h0, h1, h2, h3⟩ J H1 w hm1 e1 => ?_) (fun _ _ z => ex_cX hs z) q⟩
  refine ⟨fun i n σ' H' => n = ls.length - i ∧ i ≤ ls.length ∧ ∃ s m, RepS X.K H' s σ' ∧ Ab X.K cl H' m ∧ Ext H1 H' ∧ P i s m, ⟨ls.length, by simp, Nat.zero_le _, s, m1, hs.mono e1, hm1, Ext.refl H1, h0⟩, ?_⟩
  rintro i n σ2 H2 ⟨rfl, hle, s2, m2, hs2, hm2, e2, p2⟩
  obtain ⟨w1, w2⟩ := w i H2 m2 e2 hm2 (h1 i s2 m2 hle p2) hle
  by_cases hlt : i < ls.length
  · obtain ⟨w3, w4⟩ := w2 ls[i] (by simp [hlt])
    refine .inr ⟨w3, fun σ' H' => ∃ s m, RepS X.K H' s σ' ∧ Ab X.K cl H' m ∧ Ext H1 H' ∧ P (i + 1) s m, fun σ' H' ⟨s', m', a1, a2, a3, a4⟩ => ⟨ls.length - (i + 1), by omega, rfl, hlt, s', m', a1, a2, a3, a4⟩, fun x H' y => ?_⟩
    obtain ⟨r5, hm5, e5⟩ := w4 x H' y
    refine ⟨ls[i], s2, m2, r5, hs2.mono e5, hm5, hg.mono _ _ _ _ _ (fun s6 m6 z σ6 H6 hs6 hm6 e6 => ?_) (h2 i ls[i] s2 m2 (by simp [hlt]) p2)⟩
    have e26 := (e2.trans e5).trans e6
    have e16 := e1.trans e26
    exact ⟨s6, m6, hs6, hm6, h.mono.to z ⟨fun s' m' w σ' H' a1 a2 a3 => ⟨s', m', a1, a2, e26.trans a3, w⟩, fun _ _ w => cE_ext e16 w, fun _ _ w => cS_ext e16 w, fun s' m' w σ' H' a1 a2 a3 => ⟨s', m', a1, a2, e26.trans a3, w⟩,
      fun _ _ _ w => (cN_ext e16).ex _ _ _ w⟩⟩
  · have e : i = ls.length := by omega
    subst e
    exact .inl ⟨w1 rfl, h3 s2 m2 p2 σ2 H2 hs2 hm2 (e1.trans e2)⟩

/-! ### a def -/
def start3 (N : List Str) (ds : List D) : S3 := ds.map some ++ List.replicate (N.length - ds.length) none
theorem start_up {K : PySem.W.Frag} {H : Hp} {N : List Str} {ds : List D} {vs : List V} (r : Reps K H ds vs) : RepS K H (start3 N ds) (L2.start N vs) := by
  have hl := r.length
  refine ⟨by unfold start3 L2.start; simp [hl], fun i d e => ?_⟩
  unfold start3 at e
  unfold L2.start
  by_cases h : i < ds.length
  · rw [List.getElem?_append_left (by simpa using h), List.getElem?_map] at e
    cases q : ds[i]? with
    | none => rw [q] at e; cases e
    | some d' =>
      rw [q] at e
      cases e
      obtain ⟨v, h1, h2⟩ := r.get q
      exact ⟨v, by rw [List.getElem?_append_left (by simpa [← hl] using h), List.getElem?_map, h1]; rfl, h2⟩
  · rw [List.getElem?_append_right (by simpa using Nat.le_of_not_lt h)] at e
    obtain ⟨h1, h2⟩ := List.getElem?_eq_some_iff.mp e
    rw [List.getElem_replicate] at h2
    cases h2
def UpK (k : K3) : Prop := ∀ d m m', Le m m' → k d m → k d m'
def UpX (k : X3) : Prop := ∀ d m m', Le m m' → k d m → k d m'
/-- the body keeps the promise; L: the level -/
def BodyOk (t : Nat → TS3) (N : List Str) (S : FSpec) (n : Nat) : Prop := ∀ (L : Nat) (al : S.al) (ds : List D) (m : Mp) (k : K3) (x : X3), S.lev al ≤ L → UpK k → UpX x → S.pre al ds m → (∀ d m', S.post al m d m' → k d m') → (∀ e m', S.exc al m e m' → x e m') →
  t L { nx := fun _ m' => k .non m', rt := k, ex := fun _ => x } (start3 N ds) m
theorem def_ok {P : Program} {w : World} {K : PySem.W.Frag} {mg : Str → Option Value} {base : Heap} {x qual : Str} {st : Stmt} {f : Addr} {fd : FuncData} {N ps : List Str} {k : Nat} {sp : FSpec} {t : Nat → TS3}
    (F : Fun K x qual st f fd) (S : FnScope N ps (defScope st)) (len : ∀ al ds m, sp.pre al ds m → ds.length = ps.length) (bo : BodyOk t N sp ps.length)
    (hq : ∀ (cdv : Value) (A : Around) (outer : List Env) (s : Shared) (H : Hp) (E : XK), Room k (A.deeper (envOfC qual (defScope st) s.heap.objs.size f cdv)) →
      QB (cxOf (L2.CX P w) P w K mg base N qual (defScope st) f cdv A outer s H E) cl (fun c d _ H => E c d H) (defBody st) (t k)) :
    FnOk P w K mg base (L2.CX P w) (k + 1) f fd ps (liftSp K cl sp (k + 1)) := by
  refine F.okX S (fun vs H Q E ⟨ds, m, al, r, _, _, hp, _⟩ => by rw [← r.length]; exact len al ds m hp) (fun cdv A outer s H vs Q E hr h => ?_)
  obtain ⟨ds, m, al, r, hm, hl, hp, hk, hx⟩ := h
  refine ⟨_, (hq cdv A outer s H E hr).run, start3 N ds, m, start_up r, hm, ?_⟩
  refine (hq cdv A outer s H E hr).mono.to (bo k al ds m (cE K cl H Q) (fun x m' => ∀ c dd H', RepX K cl H' x c dd → Ab K cl H' m' → Ext H H' → E c dd H') (Nat.le_of_lt_succ hl) (fun d m m' l z => cE_le l z) (fun d m m' l z c dd H' a b e => z c dd H' a (b.le l) e) hp hk hx) ?_
  exact ⟨fun s' m' z σ' H' hs' hm' e => z _ H' rfl hm' e, fun _ _ z => z, fun _ _ z => z.elim, fun _ _ z => z.elim, fun s' y m' z σ' c dd H' _ a b e => z c dd H' a b e⟩
end
end PV

/-! Methods of built-in classes; comprehensions. -/
namespace PV
open PySem L2 PyProof.Rows
section
variable {X : Cx} {cl : Cl} {W : WX} {a b c e tg o : Expr} {A B C : TE3} {rest es : List Expr} {R : TA3} {pos p apos cpos : Pos} {st : Stmt} {sts sts' : List Stmt} {S S' : TS3}

/-- o.m(..) of a value of the built-in class T -/
def tyD (T : String) (o : D) (m : Mp) : Prop := (T = "str" ∧ ∃ z, o = .str z) ∨ (T = "list" ∧ ∃ q l, o = .ref q ∧ RL m q l) ∨ (T = "dict" ∧ ∃ q, o = .ref q ∧ ((∃ kvs, m q = some (.dK kvs)) ∨ ∃ kvs, m q = some (.dT kvs)))
def eMt (T : String) (f : D → List D → Mp → K3 → Prop) (O : TE3) (R : TA3) : TE3 := fun s m k x => O s m (fun o m1 => tyD T o m1 ∧ R s m1 (fun ds m2 => f o ds m2 k) x) x
def eMt0 (T : String) (f : D → List D → Mp → K3 → Prop) (O : TE3) : TE3 := fun s m k x => O s m (fun o m1 => tyD T o m1 ∧ f o [] m1 k) x
def MonoM (f : D → List D → Mp → K3 → Prop) : Prop := ∀ o ds m k k', (∀ d m, k d m → k' d m) → f o ds m k → f o ds m k'
def UpM (X : Cx) (cl : Cl) (f : D → List D → Mp → K3 → Prop) (r : V → List V → Hp → VK → Prop) : Prop :=
  ∀ (H : Hp) (m : Mp) (o : D) (v : V) (ds : List D) (vs : List V) (Q : VK), Rep X.K H o v → Reps X.K H ds vs → Ab X.K cl H m → f o ds m (cE X.K cl H Q) → r v vs H Q
theorem tyD.up {T : String} {d : D} {m : Mp} {H : Hp} {v : V} (h : tyD T d m) (r : Rep X.K H d v) (hm : Ab X.K cl H m) : tyV X.K T v H := by
  rcases h with ⟨rfl, z, rfl⟩ | ⟨rfl, q, l, rfl, h⟩ | ⟨rfl, q, rfl, h⟩
  · have r' : v = .str z := r
    subst r'
    rfl
  · have r' : v = .ref q := r
    subst r'
    obtain ⟨vs, h1, _⟩ := hm.rl h
    exact .inl ⟨rfl, vs, h1⟩
  · have r' : v = .ref q := r
    subst r'
    rcases h with ⟨kvs, h⟩ | ⟨kvs, h⟩
    · obtain ⟨ws, h1, _⟩ := hm.1 q _ h
      exact .inr (.inr (.inl ⟨rfl, .inl ⟨ws, h1⟩⟩))
    · obtain ⟨ws, h1, _⟩ := hm.1 q _ h
      exact .inr (.inr (.inl ⟨rfl, .inr ⟨ws, h1⟩⟩))
theorem q_mt {T id : String} {name : Str} {f : D → List D → Mp → K3 → Prop} {r : V → List V → Hp → VK → Prop} (pa : PlainAttrs T) (slot : Slot T name id) (hty : typeOf (.builtin id) = pure (.type "method_descriptor")) (hm : MtR X id r) (u : UpM X cl f r) (mf : MonoM f)
    (ho : QE X cl W o A) (ha : QA X cl W (e :: es) R) (hbase : attributeBase o name X.env (eval o X.env) = eval o X.env)
    (hfew : ((backTo cpos (starEach (e :: es) X.env)).all (fun x => !x.1) && (backToKw cpos (keywordEach [] X.env)).all (fun x => x.1.isSome)
      && decide ((e :: es).length + ([] : List Keyword).length + (if ([] : List Keyword).isEmpty then 0 else 1) < 30)) = true)
    (hline : (apos.endLine == cpos.line) = true) (hs : starEach (e :: es) X.env = (false, eval e X.env) :: starEach es X.env) (hplain : (backTo cpos (starEach es X.env)).any (·.1) = false) :
    QE X cl W (.Call (.Attribute o name apos) (e :: es) [] cpos) (eMt T f A R) :=
  ⟨fun s m k k' x x' hk hx q => ho.mono _ _ _ _ _ _ (fun d m1 ⟨z, y⟩ => ⟨z, ha.mono _ _ _ _ _ _ (fun ds m2 w => mf _ _ _ _ _ hk w) hx y⟩) hx q,
   PE.imp (pe_bm pa slot hty hm ho.run ha.run hbase hfew hline hs hplain) fun σ H Q ⟨s, m, hs, hm, q⟩ => ⟨s, m, hs, hm, ho.mono _ _ _ _ _ _ (fun d m1 ⟨z, y⟩ v H1 r1 hm1 e1 =>
    ⟨z.up r1 hm1, s, m1, hs.mono e1, hm1, ha.mono _ _ _ _ _ _ (fun ds m2 w vs H2 r2 hm2 e2 => u H2 m2 d v ds vs Q (r1.mono e2) r2 hm2 (mf _ _ _ _ _ (fun _ _ y => cE_ext (e1.trans e2) y) w)) (fun _ _ z => cX_ext e1 z) y⟩) (fun _ _ z => z) q⟩⟩
theorem q_mt0 {T id : String} {name : Str} {f : D → List D → Mp → K3 → Prop} {r : V → List V → Hp → VK → Prop} (pa : PlainAttrs T) (slot : Slot T name id) (hty : typeOf (.builtin id) = pure (.type "method_descriptor")) (hm : MtR X id r) (u : UpM X cl f r) (mf : MonoM f)
    (ho : QE X cl W o A) (hbase : attributeBase o name X.env (eval o X.env) = eval o X.env) (hline : (apos.endLine == cpos.line) = true) : QE X cl W (.Call (.Attribute o name apos) [] [] cpos) (eMt0 T f A) :=
  ⟨fun s m k k' x x' hk hx q => ho.mono _ _ _ _ _ _ (fun d m1 ⟨z, y⟩ => ⟨z, mf _ _ _ _ _ hk y⟩) hx q,
   PE.imp (pe_bm0 pa slot hty hm ho.run hbase hline) fun σ H Q ⟨s, m, hs, hm, q⟩ => ⟨s, m, hs, hm, ho.mono _ _ _ _ _ _ (fun d m1 ⟨z, y⟩ v H1 r1 hm1 e1 =>
    ⟨z.up r1 hm1, u H1 m1 d v [] [] Q r1 rfl hm1 (mf _ _ _ _ _ (fun _ _ y => cE_ext e1 y) y)⟩) (fun _ _ z => z) q⟩⟩
def fAppend (o : D) (ds : List D) (m : Mp) (k : K3) : Prop := ∃ q l y, o = .ref q ∧ ds = [y] ∧ m q = some (.lst l) ∧ l.length < sizeLine ∧ k .non (mset m q (.lst (l ++ [y])))
theorem up_append : UpM X cl fAppend rAppend := fun H m o v ds vs Q r1 r2 hm ⟨q, l, y, e1, e2, h1, h2, h3⟩ => by
  subst e1 e2
  have r' : v = .ref q := r1
  subst r'
  obtain ⟨w, rfl, rw⟩ := reps1 r2
  obtain ⟨us, q1, q2⟩ := hm.1 q _ h1
  exact ⟨q, us, w, rfl, rfl, q1, by rw [← q2.length]; exact h2, h3 _ _ rfl (put_lst hm q1 (q2.append (Reps.one rw))) (ext_lst q1)⟩
theorem mono_append : MonoM fAppend := fun o ds m k k' hk ⟨q, l, y, e1, e2, h1, h2, h3⟩ => ⟨q, l, y, e1, e2, h1, h2, hk _ _ h3⟩
def fExtend (o : D) (ds : List D) (m : Mp) (k : K3) : Prop := ∃ q q' l r, o = .ref q ∧ ds = [.ref q'] ∧ m q = some (.lst l) ∧ m q' = some (.lst r) ∧ l.length + r.length ≤ sizeLine ∧ k .non (mset m q (.lst (l ++ r)))
theorem up_extend : UpM X cl fExtend rExtend := fun H m o v ds vs Q r1 r2 hm ⟨q, q', l, r, e1, e2, h1, h2, h3, h4⟩ => by
  subst e1 e2
  have r' : v = .ref q := r1
  subst r'
  obtain ⟨w, rfl, rw⟩ := reps1 r2
  have rw' : w = .ref q' := rw
  subst rw'
  obtain ⟨us, q1, q2⟩ := hm.1 q _ h1
  obtain ⟨ws, q3, q4⟩ := hm.1 q' _ h2
  exact ⟨q, q', us, ws, rfl, rfl, q1, q3, by rw [← q2.length, ← q4.length]; exact h3, h4 _ _ rfl (put_lst hm q1 (q2.append q4)) (ext_lst q1)⟩
theorem mono_extend : MonoM fExtend := fun o ds m k k' hk ⟨q, q', l, r, e1, e2, h1, h2, h3, h4⟩ => ⟨q, q', l, r, e1, e2, h1, h2, h3, hk _ _ h4⟩
def fPop (o : D) (ds : List D) (m : Mp) (k : K3) : Prop := ∃ q l y, o = .ref q ∧ ds = [] ∧ m q = some (.lst l) ∧ l[l.length - 1]? = some y ∧ k y (mset m q (.lst l.dropLast))
theorem up_pop : UpM X cl fPop rPop := fun H m o v ds vs Q r1 r2 hm ⟨q, l, y, e1, e2, h1, h2, h3⟩ => by
  subst e1 e2
  have r' : v = .ref q := r1
  subst r'
  cases r2
  obtain ⟨us, q1, q2⟩ := hm.1 q _ h1
  obtain ⟨u, e3, r3⟩ := q2.get h2
  exact ⟨q, us, u, rfl, rfl, q1, by rw [← q2.length]; exact e3, h3 _ _ (r3.mono (ext_lst q1)) (put_lst hm q1 q2.dropLast) (ext_lst q1)⟩
theorem mono_pop : MonoM fPop := fun o ds m k k' hk ⟨q, l, y, e1, e2, h1, h2, h3⟩ => ⟨q, l, y, e1, e2, h1, h2, hk _ _ h3⟩
def fJoin (o : D) (ds : List D) (m : Mp) (k : K3) : Prop := ∃ (z : Str) (ys : List Str), o = .str z ∧ ((∃ q, ds = [.ref q] ∧ RL m q (ys.map D.str)) ∨ ds = [.tup (ys.map D.str)]) ∧ (ys.map (·.length)).sum + ys.length * z.length ≤ 16777216 ∧ k (.str (Txt.join z ys)) m
theorem up_join : UpM X cl fJoin (fun x xs H Q => ∃ a p, ∃ ys : List Str, x = .str a ∧ xs = [.ref p] ∧ (SqL X.K H p (ys.map V.str) ∨ SqT X.K H p (ys.map V.str)) ∧ (ys.map (·.length)).sum + ys.length * a.length ≤ 16777216 ∧ Q (.str (Txt.join a ys)) H) :=
  fun H m o v ds vs Q r1 r2 hm ⟨z, ys, e1, e2, h1, h2⟩ => by
  subst e1
  have r' : v = .str z := r1
  subst r'
  rcases e2 with ⟨q, e2, h3⟩ | e2
  · subst e2
    obtain ⟨w, rfl, rw⟩ := reps1 r2
    have rw' : w = .ref q := rw
    subst rw'
    obtain ⟨us, q1, q2⟩ := hm.rl h3
    have e := q2.strs
    subst e
    exact ⟨z, q, ys, rfl, rfl, .inl q1, h1, h2 _ _ rfl hm (Ext.refl H)⟩
  · subst e2
    obtain ⟨w, rfl, q, us, rfl, q1, q2⟩ := reps1 r2
    have e := q2.strs
    subst e
    exact ⟨z, q, ys, rfl, rfl, .inr q1, h1, h2 _ _ rfl hm (Ext.refl H)⟩
theorem mono_join : MonoM fJoin := fun o ds m k k' hk ⟨z, ys, e1, e2, h1, h2⟩ => ⟨z, ys, e1, e2, h1, hk _ _ h2⟩

/-! ### comprehensions -/
def noX : X3 := fun _ _ => False
def cTest (t : TT3) (s : S3) (m : Mp) (k : Bool → Mp → Prop) : Prop := t s m k noX
/-- [elt for x in it if t], x in slot i -/
def eLc (it : TI3) (i : Nat) (t : TT3) (B : TE3) : TE3 := fun s m k x => it s m (fun l R m1 => ∀ q, m1 q = none → ∃ P : Nat → Mp → Prop, P 0 (mset m1 q (.lst [])) ∧ (∀ j m, j ≤ l.length → P j m → R m) ∧
  (∀ j d m, l[j]? = some d → P j m → t (s.set i (some d)) m (fun b m3 => if b = true then B (s.set i (some d)) m3 (fun y m4 => ∃ acc, m4 q = some (.lst acc) ∧ acc.length < sizeLine ∧ P (j + 1) (mset m4 q (.lst (acc ++ [y])))) noX else P (j + 1) m3) noX) ∧
  ∀ m, P l.length m → k (.ref q) m) x
/-- .. for x, y in it, in slots i and j -/
def eLc2 (it : TI3) (i i' : Nat) (t : TT3) (B : TE3) : TE3 := fun s m k x => it s m (fun l R m1 => ∀ q, m1 q = none → ∃ P : Nat → Mp → Prop, P 0 (mset m1 q (.lst [])) ∧ (∀ j m, j ≤ l.length → P j m → R m) ∧
  (∀ j d m, l[j]? = some d → P j m → ∃ u v, d = .tup [u, v] ∧ t ((s.set i (some u)).set i' (some v)) m (fun b m3 => if b = true then B ((s.set i (some u)).set i' (some v)) m3 (fun y m4 => ∃ acc, m4 q = some (.lst acc) ∧ acc.length < sizeLine ∧ P (j + 1) (mset m4 q (.lst (acc ++ [y])))) noX else P (j + 1) m3) noX) ∧
  ∀ m, P l.length m → k (.ref q) m) x
def tYes3 : TT3 := fun _ m k _ => k true m
structure QTs (X : Cx) (cl : Cl) (W : WX) (es : List Expr) (T : TT3) : Prop where
  mono : MonoT T
  run : PTs X es (upT X.K cl W T)
theorem PTs.imp {t t' : TT} (h : PTs X es t) (i : ∀ σ H Q, t' σ H Q → t σ H Q) : PTs X es t' := ⟨fun pins s σ H Q I q => h.run pins s σ H Q I (i σ H Q q)⟩
theorem qts_nil : QTs X cl W [] tYes3 := ⟨fun s m k k' x x' hk hx h => hk _ _ h, PTs.imp pts_nil fun σ H Q ⟨s, m, hs, hm, q⟩ => q H hm (Ext.refl H)⟩
theorem qts_one {T : TT3} (h : QT X cl W e T) : QTs X cl W [e] T := ⟨h.mono, pts_one h.run⟩
abbrev W0 : WX := fun _ _ _ _ => False
theorem mono_lc {it : TI3} {i : Nat} {t : TT3} (hi : MonoI it) (ht : MonoT t) (hb : MonoE B) : MonoE (eLc it i t B) := fun s m k k' x x' hk hx q =>
  hi _ _ _ _ _ _ (fun l R m1 z p hp => let ⟨P, h0, h1, h2, h3⟩ := z p hp; ⟨P, h0, h1, h2, fun m y => hk _ _ (h3 m y)⟩) hx q
theorem mono_lc2 {it : TI3} {i i' : Nat} {t : TT3} (hi : MonoI it) (ht : MonoT t) (hb : MonoE B) : MonoE (eLc2 it i i' t B) := fun s m k k' x x' hk hx q =>
  hi _ _ _ _ _ _ (fun l R m1 z p hp => let ⟨P, h0, h1, h2, h3⟩ := z p hp; ⟨P, h0, h1, h2, fun m y => hk _ _ (h3 m y)⟩) hx q
theorem cX0 {K : PySem.W.Frag} {H : Hp} {σ : L2.St} : ∀ e m, noX e m → cX K cl W0 H σ e m := fun _ _ h => h.elim
theorem RepS.wipe1 {K : PySem.W.Frag} {H : Hp} {s : S3} {σ : L2.St} {d : D} {v : V} (h : RepS K H s σ) (r : Rep K H d v) (i : Nat) : RepS K H (s.set i (some d)) ((σ.set i none).set i (some v)) := by
  rw [List.set_set]
  exact h.set r i
theorem lc_up {it : TI3} {i : Nat} {t : TT3} (hi : MonoI it) (ht : MonoT t) (hb : MonoE B) (σ : L2.St) (H : Hp) (Q : VK) (h : upE X.K cl W (eLc it i t B) σ H Q) :
    tLc (upI X.K cl W it) (gName i) (upT X.K cl W0 t) (upE X.K cl W0 B) [i] σ H Q := by
  obtain ⟨s, m, hs, hm, h⟩ := h
  refine ⟨s, m, hs, hm, hi _ _ _ _ _ _ (fun l R m1 z J H1 w hm1 e1 p hp => ?_) (fun _ _ z => z) h⟩
  obtain ⟨P, h0, h1, h2, h3⟩ := z p (hm1.free hp)
  have e2 := Ext.new (o := .lst []) hp
  refine ⟨fun j n H' => n = l.length - j ∧ j ≤ l.length ∧ ∃ m, Ab X.K cl H' m ∧ Ext H1 H' ∧ P j m, ⟨l.length, by simp, Nat.zero_le _, _, new_lst hm1 hp (l := []) rfl, e2, h0⟩, ?_⟩
  rintro j n H3 ⟨rfl, hle, m3, hm3, e3, p3⟩
  obtain ⟨w1, w2⟩ := w j H3 m3 e3 hm3 (h1 j m3 hle p3) hle
  by_cases hlt : j < l.length
  · obtain ⟨w3, w4⟩ := w2 l[j] (by simp [hlt])
    refine .inr ⟨w3, fun H' => ∃ m, Ab X.K cl H' m ∧ Ext H1 H' ∧ P (j + 1) m, fun H' ⟨m', a1, a2, a3⟩ => ⟨l.length - (j + 1), by omega, rfl, hlt, m', a1, a2, a3⟩, fun x H' y => ?_⟩
    obtain ⟨r5, hm5, e5⟩ := w4 x H' y
    have e15 := e3.trans e5
    have hs5 := hs.mono (e1.trans e15)
    show wipe (((wipe σ [i])).set i (some x)) [i] = wipe σ [i] ∧ _
    refine ⟨by simp only [wipe, List.set_set], ?_⟩
    refine ⟨s.set i (some l[j]), m3, by simp only [wipe]; exact hs5.wipe1 r5 i, hm5, ht _ _ _ _ _ _ (fun b m6 z6 H6 hm6 e6 => ?_) cX0 (h2 j l[j] m3 (by simp [hlt]) p3)⟩
    cases b with
    | false => exact ⟨m6, hm6, e15.trans e6, z6⟩
    | true =>
      refine ⟨s.set i (some l[j]), m6, by simp only [wipe]; exact (hs5.wipe1 r5 i).mono e6, hm6, hb _ _ _ _ _ _ (fun d m7 z7 y7 H7 r7 hm7 e7 => ?_) cX0 z6⟩
      obtain ⟨acc, q1, q2, q3⟩ := z7
      obtain ⟨vs, q4, q5⟩ := hm7.1 p _ q1
      exact ⟨vs, q4, by rw [← q5.length]; exact q2, _, put_lst hm7 q4 (q5.append (Reps.one r7)), ((e15.trans e6).trans e7).trans (ext_lst q4), q3⟩
  · have e : j = l.length := by omega
    subst e
    exact .inl ⟨w1 rfl, h3 m3 p3 _ H3 rfl hm3 (e1.trans e3)⟩
theorem lc2_up {it : TI3} {i i' : Nat} {t : TT3} (hne : i ≠ i') (hi : MonoI it) (ht : MonoT t) (hb : MonoE B) (σ : L2.St) (H : Hp) (Q : VK) (h : upE X.K cl W (eLc2 it i i' t B) σ H Q) :
    tLc (upI X.K cl W it) (gTup X.K 2 (gCons (gName i) (gCons (gName i') gNil))) (upT X.K cl W0 t) (upE X.K cl W0 B) [i, i'] σ H Q := by
  obtain ⟨s, m, hs, hm, h⟩ := h
  refine ⟨s, m, hs, hm, hi _ _ _ _ _ _ (fun l R m1 z J H1 w hm1 e1 p hp => ?_) (fun _ _ z => z) h⟩
  obtain ⟨P, h0, h1, h2, h3⟩ := z p (hm1.free hp)
  have e2 := Ext.new (o := .lst []) hp
  refine ⟨fun j n H' => n = l.length - j ∧ j ≤ l.length ∧ ∃ m, Ab X.K cl H' m ∧ Ext H1 H' ∧ P j m, ⟨l.length, by simp, Nat.zero_le _, _, new_lst hm1 hp (l := []) rfl, e2, h0⟩, ?_⟩
  rintro j n H3 ⟨rfl, hle, m3, hm3, e3, p3⟩
  obtain ⟨w1, w2⟩ := w j H3 m3 e3 hm3 (h1 j m3 hle p3) hle
  by_cases hlt : j < l.length
  · obtain ⟨w3, w4⟩ := w2 l[j] (by simp [hlt])
    refine .inr ⟨w3, fun H' => ∃ m, Ab X.K cl H' m ∧ Ext H1 H' ∧ P (j + 1) m, fun H' ⟨m', a1, a2, a3⟩ => ⟨l.length - (j + 1), by omega, rfl, hlt, m', a1, a2, a3⟩, fun x H' y => ?_⟩
    obtain ⟨r5, hm5, e5⟩ := w4 x H' y
    have e15 := e3.trans e5
    have hs5 := hs.mono (e1.trans e15)
    obtain ⟨u, v, ed, h4⟩ := h2 j l[j] m3 (by simp [hlt]) p3
    rw [ed] at r5
    obtain ⟨q, us, rfl, q1, q2⟩ := r5
    obtain ⟨x1, x2, rfl, r1, r2⟩ := reps2 q2
    have hw : ∀ (x1 x2 : V), wipe (((wipe σ [i, i']).set i (some x1)).set i' (some x2)) [i, i'] = wipe σ [i, i'] := fun x1 x2 => by
      simp only [wipe, List.set_set]
      rw [List.set_comm _ _ hne]
      simp only [List.set_set]
    have hS : ∀ {H'}, Ext H' H' → RepS X.K H' s σ → Rep X.K H' u x1 → Rep X.K H' v x2 → RepS X.K H' ((s.set i (some u)).set i' (some v)) (((wipe σ [i, i']).set i (some x1)).set i' (some x2)) := fun {H'} _ a b c => by
      have : ((wipe σ [i, i']).set i (some x1)).set i' (some x2) = (σ.set i (some x1)).set i' (some x2) := by
        simp only [wipe, List.set_set]
        rw [List.set_comm (some x1) (some x2) hne]
        rw [List.set_comm (some x1) (some x2) hne]
        simp only [List.set_set]
      rw [this]
      exact (a.set b i).set c i'
    refine ⟨q, [x1, x2], rfl, q1, rfl, x1, [x2], rfl, x2, [], rfl, rfl, hw x1 x2, ?_⟩
    refine ⟨(s.set i (some u)).set i' (some v), m3, hS (Ext.refl _) hs5 r1 r2, hm5, ht _ _ _ _ _ _ (fun b m6 z6 H6 hm6 e6 => ?_) cX0 h4⟩
    cases b with
    | false => exact ⟨m6, hm6, e15.trans e6, z6⟩
    | true =>
      refine ⟨(s.set i (some u)).set i' (some v), m6, (hS (Ext.refl _) hs5 r1 r2).mono e6, hm6, hb _ _ _ _ _ _ (fun d m7 z7 y7 H7 r7 hm7 e7 => ?_) cX0 z6⟩
      obtain ⟨acc, q1, q2, q3⟩ := z7
      obtain ⟨vs, q4, q5⟩ := hm7.1 p _ q1
      exact ⟨vs, q4, by rw [← q5.length]; exact q2, _, put_lst hm7 q4 (q5.append (Reps.one r7)), ((e15.trans e6).trans e7).trans (ext_lst q4), q3⟩
  · have e : j = l.length := by omega
    subst e
    exact .inl ⟨w1 rfl, h3 m3 p3 _ H3 rfl hm3 (e1.trans e3)⟩
/-- the contexts of a comprehension's block -/
abbrev Blks (X : Cx) (scope : Scope) (f : Cx → Prop) : Prop := ∀ (s : Shared) (H : Hp) (C : Addr) (cz : List (Str × Addr)) (fp : List Addr), f (X.blk s H scope (compEnvC scope cz C X.env) fp)
variable {ifs : List Expr} {scope : Scope} {it : TI3} {t : TT3} {x x' : Str} {i i' j k : Nat} {p1 p2 p3 : Pos}
theorem q_lc (hc : X.calm = true) (hN : X.N.Nodup) (hi : QI X cl W (.Name x p1) a it) (ok : BlkOk X.N X.env.scope scope [(x, i)])
    (hg : Blks X scope fun Y => PG Y (.Name x p1) (gName i)) (ht : Blks X scope fun Y => QTs Y cl W0 ifs t) (hb : Blks X scope fun Y => QE Y cl W0 e B) (hs : ∀ z, foldedSetIterable a X.env z = pure z) :
    QE X cl W (.ListComp e [⟨.Name x p1, a, ifs, 0⟩] scope pos) (eLc it i t B) :=
  ⟨mono_lc hi.mono (ht X.s_0 X.H_0 0 [] []).mono (hb X.s_0 X.H_0 0 [] []).mono, PE.imp (pe_lc hc hN hi.run ok hg (fun s H C cz fp => (ht s H C cz fp).run) (fun s H C cz fp => (hb s H C cz fp).run) hs) (lc_up hi.mono (ht X.s_0 X.H_0 0 [] []).mono (hb X.s_0 X.H_0 0 [] []).mono)⟩
theorem q_lc2 (hne : i ≠ i') (hc : X.calm = true) (hN : X.N.Nodup) (hi : QI X cl W (.Tuple [.Name x p1, .Name x' p2] k p3) a it) (ok : BlkOk X.N X.env.scope scope [(x, i), (x', i')])
    (hg : Blks X scope fun Y => PG Y (.Tuple [.Name x p1, .Name x' p2] k p3) (gTup Y.K 2 (gCons (gName i) (gCons (gName i') gNil)))) (ht : Blks X scope fun Y => QTs Y cl W0 ifs t) (hb : Blks X scope fun Y => QE Y cl W0 e B) (hs : ∀ z, foldedSetIterable a X.env z = pure z) :
    QE X cl W (.ListComp e [⟨.Tuple [.Name x p1, .Name x' p2] k p3, a, ifs, 0⟩] scope pos) (eLc2 it i i' t B) :=
  ⟨mono_lc2 hi.mono (ht X.s_0 X.H_0 0 [] []).mono (hb X.s_0 X.H_0 0 [] []).mono, PE.imp (pe_lc hc hN hi.run ok hg (fun s H C cz fp => (ht s H C cz fp).run) (fun s H C cz fp => (hb s H C cz fp).run) hs) (lc2_up hne hi.mono (ht X.s_0 X.H_0 0 [] []).mono (hb X.s_0 X.H_0 0 [] []).mono)⟩
theorem PGn {Y : Cx} (hN : Y.N.Nodup) (hi : Y.N[i]? = some x) (hx : Loc Y.env.scope x) (hf : Y.fn x = true ∨ Y.env.scope.names.lookup x = some .local) : PG Y (.Name x p1) (gName i) := pg_name hN hi hx hf
/-- y = [..] on one line -/
theorem qs_lc {y : Str} {py spos : Pos} {n : Nat} (hc : X.calm = true) (hN : X.N.Nodup) (hy : X.N[n]? = some y) (hyl : X.env.scope.names.lookup y = some .local)
    (hsw : swapsWith (.ListComp e [⟨.Name x p1, a, ifs, 0⟩] scope pos) (some (.Name y py)) spos.line X.env = pure true) (hi : QI X cl W (.Name x p1) a it) (ok : BlkOk X.N X.env.scope scope [(x, i)])
    (hg : Blks X scope fun Y => PG Y (.Name x p1) (gName i)) (ht : Blks X scope fun Y => QTs Y cl W0 ifs t) (hb : Blks X scope fun Y => QE Y cl W0 e B) (hs : ∀ z, foldedSetIterable a X.env z = pure z) :
    QS X cl W (.Assign [.Name y py] (.ListComp e [⟨.Name x p1, a, ifs, 0⟩] scope pos) spos) (sAsg (eLc it i t B) (gNm n)) :=
  ⟨fun s m D D' l q => mono_lc hi.mono (ht X.s_0 X.H_0 0 [] []).mono (hb X.s_0 X.H_0 0 [] []).mono _ _ _ _ _ _ (fun _ _ z => l.nx _ _ z) (fun _ _ z => l.ex _ _ _ z) q,
   PS.imp (ps_setLc hc hN hy hyl hsw hi.run ok hg (fun s H C cz fp => (ht s H C cz fp).run) (fun s H C cz fp => (hb s H C cz fp).run) hs) fun D σ H ⟨s, m, hs, hm, q⟩ =>
    lc_up hi.mono (ht X.s_0 X.H_0 0 [] []).mono (hb X.s_0 X.H_0 0 [] []).mono σ H _ ⟨s, m, hs, hm, mono_lc hi.mono (ht X.s_0 X.H_0 0 [] []).mono (hb X.s_0 X.H_0 0 [] []).mono _ _ _ _ _ _ (fun d m1 z v H1 r hm1 e1 => z _ H1 ((hs.mono e1).set r n) hm1 e1) (fun _ _ z => ex_cX hs z) q⟩⟩
theorem qs_lc2 {y : Str} {py spos : Pos} {n : Nat} (hne : i ≠ i') (hc : X.calm = true) (hN : X.N.Nodup) (hy : X.N[n]? = some y) (hyl : X.env.scope.names.lookup y = some .local)
    (hsw : swapsWith (.ListComp e [⟨.Tuple [.Name x p1, .Name x' p2] k p3, a, ifs, 0⟩] scope pos) (some (.Name y py)) spos.line X.env = pure true) (hi : QI X cl W (.Tuple [.Name x p1, .Name x' p2] k p3) a it) (ok : BlkOk X.N X.env.scope scope [(x, i), (x', i')])
    (hg : Blks X scope fun Y => PG Y (.Tuple [.Name x p1, .Name x' p2] k p3) (gTup Y.K 2 (gCons (gName i) (gCons (gName i') gNil)))) (ht : Blks X scope fun Y => QTs Y cl W0 ifs t) (hb : Blks X scope fun Y => QE Y cl W0 e B) (hs : ∀ z, foldedSetIterable a X.env z = pure z) :
    QS X cl W (.Assign [.Name y py] (.ListComp e [⟨.Tuple [.Name x p1, .Name x' p2] k p3, a, ifs, 0⟩] scope pos) spos) (sAsg (eLc2 it i i' t B) (gNm n)) :=
  ⟨fun s m D D' l q => mono_lc2 hi.mono (ht X.s_0 X.H_0 0 [] []).mono (hb X.s_0 X.H_0 0 [] []).mono _ _ _ _ _ _ (fun _ _ z => l.nx _ _ z) (fun _ _ z => l.ex _ _ _ z) q,
   PS.imp (ps_setLc hc hN hy hyl hsw hi.run ok hg (fun s H C cz fp => (ht s H C cz fp).run) (fun s H C cz fp => (hb s H C cz fp).run) hs) fun D σ H ⟨s, m, hs, hm, q⟩ =>
    lc2_up hne hi.mono (ht X.s_0 X.H_0 0 [] []).mono (hb X.s_0 X.H_0 0 [] []).mono σ H _ ⟨s, m, hs, hm, mono_lc2 hi.mono (ht X.s_0 X.H_0 0 [] []).mono (hb X.s_0 X.H_0 0 [] []).mono _ _ _ _ _ _ (fun d m1 z v H1 r hm1 e1 => z _ H1 ((hs.mono e1).set r n) hm1 e1) (fun _ _ z => ex_cX hs z) q⟩⟩
end
end PV

/-! Steps through readings. -/
namespace PV
open PySem L2 PyProof.Rows
section
variable {T : Tb} {L i j : Nat} {s : S3} {m : Mp} {k : K3} {x : X3} {d u v : D} {A B C : TE3} {R : TA3} {nx bk ct : S3 → Mp → Prop} {rt : K3} {ex : S3 → X3} {t t' : TS3} {c c' : TT3} {kb : Bool → Mp → Prop} {P Q : Prop} {p q : Addr} {l r : List D}
theorem x_call {S : FSpec} {ds : List D} (h : T i S) (a : S.al) (hl : S.lev a < L) (hp : S.pre a ds m) (hk : ∀ d m', S.post a m d m' → k d m') (he : ∀ e m', S.exc a m e m' → x e m') : callS T L i ds m k x := ⟨S, h, a, hl, hp, hk, he⟩
/-! statements -/
theorem x_seq (h : t ⟨fun s' m' => t' ⟨nx, rt, bk, ct, ex⟩ s' m', rt, bk, ct, ex⟩ s m) : sSeq t t' ⟨nx, rt, bk, ct, ex⟩ s m := h
/-- ways meet: J stands there -/
theorem x_seqJ (J : S3 → Mp → Prop) (h2 : ∀ s m, J s m → t' ⟨nx, rt, bk, ct, ex⟩ s m) (h1 : ∀ n, (∀ s m, J s m → n s m) → t ⟨n, rt, bk, ct, ex⟩ s m) : sSeqJ t t' ⟨nx, rt, bk, ct, ex⟩ s m := h1 _ h2
theorem x_seqN (h : t ⟨fun s' m' => t' ⟨nx, rt, bk, ct, ex⟩ s' m', rt, bk, ct, ex⟩ s m) : sSeqJ t t' ⟨nx, rt, bk, ct, ex⟩ s m := h
theorem x_nil (h : nx s m) : sNil ⟨nx, rt, bk, ct, ex⟩ s m := h
theorem x_brk (h : bk s m) : sBrk ⟨nx, rt, bk, ct, ex⟩ s m := h
theorem x_cnt (h : ct s m) : sCnt ⟨nx, rt, bk, ct, ex⟩ s m := h
theorem x_exp (h : A s m (fun _ m1 => nx s m1) (ex s)) : sExp A ⟨nx, rt, bk, ct, ex⟩ s m := h
theorem x_ret (h : A s m rt (ex s)) : sRet A ⟨nx, rt, bk, ct, ex⟩ s m := h
theorem x_retN (h : rt .non m) : sRetN ⟨nx, rt, bk, ct, ex⟩ s m := h
theorem x_asg {g : TG3} (h : A s m (fun d m1 => g d s m1 nx) (ex s)) : sAsg A g ⟨nx, rt, bk, ct, ex⟩ s m := h
theorem x_par {R : TA3} (h : R s m (fun ds m1 => ∃ u v, ds = [u, v] ∧ nx ((s.set i (some u)).set j (some v)) m1) (ex s)) : sPar i j R ⟨nx, rt, bk, ct, ex⟩ s m := h
theorem x_par2 {Z : D → D → Prop} (h : Z u v) : ∃ u' v', [u, v] = [u', v'] ∧ Z u' v' := ⟨u, v, rfl, h⟩
theorem x_gnm {n : S3 → Mp → Prop} (h : n (s.set i (some d)) m) : gNm i d s m n := h
theorem x_if (h : c s m (fun b m1 => if b = true then t ⟨nx, rt, bk, ct, ex⟩ s m1 else t' ⟨nx, rt, bk, ct, ex⟩ s m1) (ex s)) : sIf c t t' ⟨nx, rt, bk, ct, ex⟩ s m := h
theorem x_aug {f : D → D → Mp → K3 → Prop} (h0 : s[i]? = some (some u)) (h : A s m (fun v m1 => f u v m1 (fun d m2 => nx (s.set i (some d)) m2)) (ex s)) : sAug i A f ⟨nx, rt, bk, ct, ex⟩ s m := ⟨u, h0, h⟩
theorem x_sub {O I V : TE3} (h : V s m (fun v m1 => O s m1 (fun o m2 => I s m2 (fun i m3 => fSet o i v m3 (nx s)) (ex s)) (ex s)) (ex s)) : sSub O I V ⟨nx, rt, bk, ct, ex⟩ s m := h
theorem xf_set {n : Int} {kk : Mp → Prop} (h1 : m p = some (.lst l)) (h2 : ixN l.length n = some j) (h : kk (mset m p (.lst (l.set j v)))) : fSet (.ref p) (.int n) v m kk := .inl ⟨p, l, n, j, rfl, rfl, h1, h2, h⟩
theorem xf_dset {kvs : List (Key × D)} {y : Key} {kk : Mp → Prop} (h1 : m p = some (.dK kvs)) (h2 : kvs.length < 100000) (h : kk (mset m p (.dK (putD kvs y v)))) : fSet (.ref p) (keyD y) v m kk := .inr ⟨p, kvs, y, rfl, rfl, h1, Nat.lt_of_lt_of_le h2 (by decide), h⟩
theorem xf_dsetI {kvs : List (Key × D)} {y : Int} {kk : Mp → Prop} (h1 : m p = some (.dK kvs)) (h2 : kvs.length < 100000) (h : kk (mset m p (.dK (putD kvs (.inl y) v)))) : fSet (.ref p) (.int y) v m kk := xf_dset (y := .inl y) h1 h2 h
theorem xf_dsetS {kvs : List (Key × D)} {y : Str} {kk : Mp → Prop} (h1 : m p = some (.dK kvs)) (h2 : kvs.length < 100000) (h : kk (mset m p (.dK (putD kvs (.inr y) v)))) : fSet (.ref p) (.str y) v m kk := xf_dset (y := .inr y) h1 h2 h
/-! expressions -/
theorem x_var (h0 : s[i]? = some (some d)) (h : k d m) : eVar i s m k x := ⟨d, h0, h⟩
theorem x_lit (h : k d m) : eLit d s m k x := h
theorem x_bin {f : D → D → Mp → K3 → Prop} (h : A s m (fun u m1 => B s m1 (fun v m2 => f u v m2 k) x) x) : eBin f A B s m k x := h
theorem x_neg (h : A s m (fun u m1 => ∃ i, u = .int i ∧ k (.int (-i)) m1) x) : eNeg A s m k x := h
theorem x_negI {n : Int} (h : k (.int (-n)) m) : ∃ i, D.int n = .int i ∧ k (.int (-i)) m := ⟨n, rfl, h⟩
theorem x_anil {ka : List D → Mp → Prop} (h : ka [] m) : aNil s m ka x := h
theorem x_acons {ka : List D → Mp → Prop} (h : A s m (fun d m1 => R s m1 (fun ds m2 => ka (d :: ds) m2) x) x) : aCons A R s m ka x := h
theorem x_tup (h : R s m (fun ds m1 => ds.length ≤ sizeLine ∧ k (.tup ds) m1) x) : eTup R s m k x := h
theorem x_lst (h : R s m (fun ds m1 => ds.length ≤ sizeLine ∧ ∀ p, m1 p = none → k (.ref p) (mset m1 p (.lst ds))) x) : eLst R s m k x := h
theorem x_dic (h : ∀ p, m p = none → k (.ref p) (mset m p (.dK []))) : eDic s m k x := h
theorem x_cb {f : List D → Mp → K3 → Prop} (h : R s m (fun ds m1 => f ds m1 k) x) : eCB f R s m k x := h
theorem x_ecall (h : R s m (fun ds m1 => callS T L i ds m1 k x) x) : eCall T L i R s m k x := h
theorem x_mt {n : String} {f : D → List D → Mp → K3 → Prop} (h : A s m (fun o m1 => tyD n o m1 ∧ R s m1 (fun ds m2 => f o ds m2 k) x) x) : eMt n f A R s m k x := h
theorem x_mt0 {n : String} {f : D → List D → Mp → K3 → Prop} (h : A s m (fun o m1 => tyD n o m1 ∧ f o [] m1 k) x) : eMt0 n f A s m k x := h
theorem x_tyL {Z : Prop} (h0 : RL m p l) (h : Z) : tyD "list" (.ref p) m ∧ Z := ⟨.inr (.inl ⟨rfl, p, l, rfl, h0⟩), h⟩
theorem x_tyS {Z : Prop} {z : Str} (h : Z) : tyD "str" (.str z) m ∧ Z := ⟨.inl ⟨rfl, z, rfl⟩, h⟩
theorem x_sz {ds : List D} {Z : Prop} (h0 : ds.length ≤ 100000) (h : Z) : ds.length ≤ sizeLine ∧ Z := ⟨Nat.le_trans h0 (by decide), h⟩
theorem x_and (h : A s m (fun d m1 => ∃ c, d = .bl c ∧ if c = true then B s m1 k x else k (.bl false) m1) x) : eAnd A B s m k x := h
theorem x_or (h : A s m (fun d m1 => ∃ c, d = .bl c ∧ if c = true then k (.bl true) m1 else B s m1 k x) x) : eOr A B s m k x := h
theorem x_not (h : A s m (fun d m1 => ∃ c, d = .bl c ∧ k (.bl (!c)) m1) x) : eNot A s m k x := h
theorem x_ife (h : c s m (fun b m1 => if b = true then A s m1 k x else B s m1 k x) x) : eIf c A B s m k x := h
theorem x_exb {b : Bool} {Z : Bool → Prop} (h : Z b) : ∃ c, D.bl b = .bl c ∧ Z c := ⟨b, rfl, h⟩
theorem x_chain {f g : Int → Int → Bool} (h : A s m (fun u m1 => B s m1 (fun v m2 => ∃ i j, u = .int i ∧ v = .int j ∧ if f i j = true then C s m2 (fun w m3 => ∃ l, w = .int l ∧ k (.bl (g j l)) m3) x else k (.bl false) m2) x) x) : eChain f g A B C s m k x := h
theorem x_ch1 {n o : Int} {Z : Int → Int → Prop} (h : Z n o) : ∃ i j, D.int n = .int i ∧ D.int o = .int j ∧ Z i j := ⟨n, o, rfl, rfl, h⟩
theorem x_ch2 {n : Int} {Z : Int → Prop} (h : Z n) : ∃ i, D.int n = .int i ∧ Z i := ⟨n, rfl, h⟩
/-! tests -/
theorem x_tbv (h : A s m (fun d m1 => ∃ b, d = .bl b ∧ kb b m1) x) : tBv A s m kb x := h
theorem x_ttru (h : A s m (fun d m1 => ∃ b, TruD m1 d b ∧ kb b m1) x) : tTru A s m kb x := h
theorem x_trB {b : Bool} {Z : Bool → Prop} (h : Z b) : ∃ c, TruD m (.bl b) c ∧ Z c := ⟨b, rfl, h⟩
theorem x_trI {n : Int} {Z : Bool → Prop} (h : Z (n != 0)) : ∃ c, TruD m (.int n) c ∧ Z c := ⟨_, rfl, h⟩
theorem x_trT {Z : Bool → Prop} (h : Z (!l.isEmpty)) : ∃ c, TruD m (.tup l) c ∧ Z c := ⟨_, rfl, h⟩
theorem x_trL (h0 : RL m p l) {Z : Bool → Prop} (h : Z (!l.isEmpty)) : ∃ c, TruD m (.ref p) c ∧ Z c := ⟨_, .inl ⟨l, h0, rfl⟩, h⟩
theorem x_tand (h : c s m (fun b m1 => if b = true then c' s m1 kb x else kb false m1) x) : tAnd3 c c' s m kb x := h
theorem x_tor (h : c s m (fun b m1 => if b = true then kb true m1 else c' s m1 kb x) x) : tOr3 c c' s m kb x := h
theorem x_tnot (h : c s m (fun b m1 => kb (!b) m1) x) : tNot3 c s m kb x := h
theorem x_yes (h : kb true m) : tYes3 s m kb x := h
theorem x_iT (h : P) : if true = true then P else Q := h
theorem x_itg {c : Prop} [Decidable c] (h : if c then P else Q) : if c then P else Q := h
theorem x_iF (h : Q) : if false = true then P else Q := h
theorem x_iD {Z : Prop} [Decidable Z] (h1 : Z → P) (h2 : ¬ Z → Q) : if decide Z = true then P else Q := by
  by_cases h : Z
  · rw [decide_eq_true h]; exact h1 h
  · rw [decide_eq_false h]; exact h2 h
theorem x_iN {Z : Prop} [Decidable Z] (h1 : ¬ Z → P) (h2 : Z → Q) : if (!decide Z) = true then P else Q := by
  by_cases h : Z
  · rw [decide_eq_true h]; exact h2 h
  · rw [decide_eq_false h]; exact h1 h
theorem x_iB {b : Bool} (h1 : b = true → P) (h2 : b = false → Q) : if b = true then P else Q := by
  cases b with
  | true => exact h1 rfl
  | false => exact h2 rfl
/-! operations -/
theorem xf_addI {n o : Int} (h : k (.int (n + o)) m) : fAdd (.int n) (.int o) m k := h
theorem xf_addS {n o : Str} (h0 : n.length + o.length ≤ sizeLine) (h : k (.str (n ++ o)) m) : fAdd (.str n) (.str o) m k := ⟨h0, h⟩
theorem xf_addT (h0 : l.length + r.length ≤ 100000) (h : k (.tup (l ++ r)) m) : fAdd (.tup l) (.tup r) m k := ⟨Nat.le_trans h0 (by decide), h⟩
theorem xf_addL (h1 : m p = some (.lst l)) (h2 : m q = some (.lst r)) (h0 : l.length + r.length ≤ 100000) (h : ∀ z, m z = none → k (.ref z) (mset m z (.lst (l ++ r)))) : fAdd (.ref p) (.ref q) m k := ⟨l, r, h1, h2, Nat.le_trans h0 (by decide), h⟩
theorem xf_I {Z : Int → Int → Prop} {g : Int → Int → D} {n o : Int} (h0 : Z n o) (h : k (g n o) m) : fI Z g (.int n) (.int o) m k := ⟨n, o, rfl, rfl, h0, h⟩
theorem xf_mulI {n o : Int} (h0 : CMulX n o) (h : k (.int (n * o)) m) : fMul (.int n) (.int o) m k := ⟨h0, h⟩
theorem xf_mulT {n : Int} (h1 : l ≠ []) (h2 : 2 ≤ n) (h3 : n ≤ 1000) (h4 : l.length ≤ 1000) (h : k (.tup (List.replicate n.toNat l).flatten) m) : fMul (.tup l) (.int n) m k := ⟨h1, h2, h3, h4, h⟩
theorem xf_ltI {n o : Int} (h : k (.bl (decide (n < o))) m) : fLt (.int n) (.int o) m k := h
theorem xf_ltS {n o : Str} (h : k (.bl (decide (n.cps.toList < o.cps.toList))) m) : fLt (.str n) (.str o) m k := h
theorem xf_is {neg b : Bool} (h0 : isD u v = some b) (h : k (inB neg b) m) : fIs neg u v m k := ⟨b, h0, h⟩
theorem xf_is0 {b : Bool} (h0 : isD u v = some b) (h : k (.bl b) m) : fIs false u v m k := ⟨b, h0, h⟩
theorem xf_is1 {b : Bool} (h0 : isD u v = some b) (h : k (.bl (!b)) m) : fIs true u v m k := ⟨b, h0, h⟩
theorem eqv_int {n o : Int} : PyData.eqv (.int n) (.int o) = decide (n = o) := by
  show (n == o) = decide (n = o)
  by_cases h : n = o
  · subst h; simp
  · simp [h]
theorem eqv_str {n o : Str} : PyData.eqv (.str n) (.str o) = decide (n = o) := by
  show (n == o) = decide (n = o)
  by_cases h : n = o
  · subst h; simp
  · simp [h]
theorem peq_l {d e : PyData} (h : d.depth ≤ 64) : PEq d e := Nat.le_trans (Nat.min_le_left _ _) h
theorem peq_r {d e : PyData} (h : e.depth ≤ 64) : PEq d e := Nat.le_trans (Nat.min_le_right _ _) h
theorem xf_eqI {n o : Int} (h : k (.bl (decide (n = o))) m) : fEq (.int n) (.int o) m k := ⟨_, _, .int n, .int o, peq_l (Nat.zero_le _), by rw [eqv_int]; exact h⟩
theorem xf_neI {n o : Int} (h : k (.bl (!decide (n = o))) m) : fNe (.int n) (.int o) m k := ⟨_, _, .int n, .int o, peq_l (Nat.zero_le _), by rw [eqv_int]; exact h⟩
theorem xf_eqS {n o : Str} (h : k (.bl (decide (n = o))) m) : fEq (.str n) (.str o) m k := ⟨_, _, .str n, .str o, peq_l (Nat.zero_le _), by rw [eqv_str]; exact h⟩
theorem xf_neS {n o : Str} (h : k (.bl (!decide (n = o))) m) : fNe (.str n) (.str o) m k := ⟨_, _, .str n, .str o, peq_l (Nat.zero_le _), by rw [eqv_str]; exact h⟩
theorem xf_eqB {n o : Bool} (h : k (.bl (n == o)) m) : fEq (.bl n) (.bl o) m k := ⟨_, _, .bl n, .bl o, peq_l (Nat.zero_le _), h⟩
theorem xf_ixL {n : Int} (h1 : RL m p l) (h2 : atI l n = some d) (h : k d m) : fIx (.ref p) (.int n) m k := .inl ⟨n, l, d, rfl, h1, h2, h⟩
theorem xf_dgetI {kvs : List (Key × D)} {n : Int} (h1 : m p = some (.dK kvs) ∨ m p = some (.rdK kvs)) (h2 : getD kvs (.inl n) = some d) (h : k d m) : fIx (.ref p) (.int n) m k := .inr ⟨d, ⟨kvs, .inl n, h1, rfl, h2.symm⟩, h⟩
theorem xf_dgetS {kvs : List (Key × D)} {n : Str} (h1 : m p = some (.dK kvs) ∨ m p = some (.rdK kvs)) (h2 : getD kvs (.inr n) = some d) (h : k d m) : fIx (.ref p) (.str n) m k := .inr ⟨d, ⟨kvs, .inr n, h1, rfl, h2.symm⟩, h⟩
theorem xf_dinI {kvs : List (Key × D)} {n : Int} {neg : Bool} (h1 : m p = some (.dK kvs) ∨ m p = some (.rdK kvs)) (h : k (inB neg (getD kvs (.inl n)).isSome) m) : fIn neg (.int n) (.ref p) m k := .inr (.inr ⟨p, _, rfl, ⟨kvs, .inl n, h1, rfl, rfl⟩, h⟩)
theorem xf_dinS {kvs : List (Key × D)} {n : Str} {neg : Bool} (h1 : m p = some (.dK kvs) ∨ m p = some (.rdK kvs)) (h : k (inB neg (getD kvs (.inr n)).isSome) m) : fIn neg (.str n) (.ref p) m k := .inr (.inr ⟨p, _, rfl, ⟨kvs, .inr n, h1, rfl, rfl⟩, h⟩)
theorem xf_ixT {n : Int} (h2 : atI l n = some d) (h : k d m) : fIx (.tup l) (.int n) m k := ⟨d, h2, h⟩
theorem xf_ixS {n : Int} {z : Str} {cc : Nat} (h0 : z.length ≤ sizeLine) (h2 : atI z.cps.toList n = some cc) (h : k (.str ⟨#[cc]⟩) m) : fIx (.str z) (.int n) m k := ⟨h0, cc, h2, h⟩
theorem x_sl {U V : TO3} (h : A s m (fun d m1 => U s m1 (fun lo m2 => V s m2 (fun hi m3 => fSl d lo hi m3 k) x) x) x) : eSl A U V s m k x := h
theorem x_on {ko : Option Int → Mp → Prop} (h : ko none m) : oNone s m ko x := h
theorem x_os {ko : Option Int → Mp → Prop} (h : A s m (fun d m1 => ∃ i, d = .int i ∧ ko (some i) m1) x) : oSome A s m ko x := h
theorem xf_slT {lo hi : Option Int} (h : k (.tup (cutD l lo hi)) m) : fSl (.tup l) lo hi m k := h
theorem xf_slS {lo hi : Option Int} {z : Str} (h0 : z.length ≤ sizeLine) (h : k (.str (cutS z lo hi)) m) : fSl (.str z) lo hi m k := ⟨h0, h⟩
theorem xf_slL {lo hi : Option Int} (h1 : RL m p l) (h : ∀ z, m z = none → k (.ref z) (mset m z (.lst (cutD l lo hi)))) : fSl (.ref p) lo hi m k := ⟨l, h1, h⟩
theorem xf_lenT (h : k (.int l.length) m) : fLen [.tup l] m k := h
theorem xf_lenL (h1 : RL m p l) (h : k (.int l.length) m) : fLen [.ref p] m k := .inl ⟨l, h1, h⟩
theorem xf_lenD {kvs : List (Key × D)} (h1 : m p = some (.dK kvs) ∨ m p = some (.rdK kvs)) (h : k (.int kvs.length) m) : fLen [.ref p] m k := .inr ⟨kvs, h1, h⟩
theorem xf_lenS {z : Str} (h0 : z.length ≤ sizeLine) (h : k (.int z.length) m) : fLen [.str z] m k := ⟨h0, h⟩
theorem xf_ord {cc : Nat} (h : k (.int cc) m) : fOrd [.str ⟨#[cc]⟩] m k := ⟨⟨#[cc]⟩, rfl, rfl, h⟩
theorem xf_abs {n : Int} (h : k (.int (if n < 0 then -n else n)) m) : fAbs [.int n] m k := ⟨n, rfl, h⟩
theorem xf_max2 {n o : Int} (h : k (.int (if o > n then o else n)) m) : fMax2 [.int n, .int o] m k := ⟨n, o, rfl, h⟩
theorem xf_min2 {n o : Int} (h : k (.int (if o < n then o else n)) m) : fMin2 [.int n, .int o] m k := ⟨n, o, rfl, h⟩
theorem xf_intI {n : Int} (h : k (.int n) m) : fInt [.int n] m k := .inl ⟨n, rfl, h⟩
theorem xf_intB {b : Bool} (h : k (.int (if b then 1 else 0)) m) : fInt [.bl b] m k := .inr (.inl ⟨b, rfl, h⟩)
theorem xf_intS {z : Str} {n : Int} (h1 : PySem.intText? z = some n) (h0 : z.length ≤ 640) (h : k (.int n) m) : fInt [.str z] m k := .inr (.inr ⟨z, n, rfl, h1, h0, h⟩)
theorem xf_str {n : Int} (h0 : n.natAbs.log2 < 1920) (h : k (.str (toString n)) m) : fStr [.int n] m k := .inl ⟨n, rfl, h0, h⟩
theorem xf_strB {b : Bool} (h : k (.str (if b then "True" else "False")) m) : fStr [.bl b] m k := .inr ⟨b, rfl, h⟩
theorem xf_tupL (h1 : RL m p l) (h : k (.tup l) m) : fTuple [.ref p] m k := .inl ⟨p, l, rfl, h1, h⟩
theorem xf_tupT (h : k (.tup l) m) : fTuple [.tup l] m k := .inr ⟨l, rfl, h⟩
theorem xf_lstT (h : ∀ z, m z = none → k (.ref z) (mset m z (.lst l))) : fList [.tup l] m k := ⟨l, .inr rfl, h⟩
theorem xf_lstL (h1 : RL m p l) (h : ∀ z, m z = none → k (.ref z) (mset m z (.lst l))) : fList [.ref p] m k := ⟨l, .inl ⟨p, rfl, h1⟩, h⟩
theorem xf_divmod {n o : Int} (h0 : CDivW n o) (h : k (.tup [.int (n / o), .int (n % o)]) m) : fDivmod [.int n, .int o] m k := ⟨n, o, rfl, h0, h⟩
theorem xf_app (h1 : m p = some (.lst l)) (h0 : l.length < 100000) (h : k .non (mset m p (.lst (l ++ [d])))) : fAppend (.ref p) [d] m k := ⟨p, l, d, rfl, rfl, h1, Nat.lt_of_lt_of_le h0 (by decide), h⟩
theorem xf_ext (h1 : m p = some (.lst l)) (h2 : m q = some (.lst r)) (h0 : l.length + r.length ≤ 100000) (h : k .non (mset m p (.lst (l ++ r)))) : fExtend (.ref p) [.ref q] m k := ⟨p, q, l, r, rfl, rfl, h1, h2, Nat.le_trans h0 (by decide), h⟩
/-! isinstance -/
theorem xf_isi {n o : String} {b : Bool} (h1 : TyD m d n) (h2 : kitB n o = some b) (h : k (.bl b) m) : fIsi [d, .ty o] m k := ⟨d, o, n, b, rfl, h1, h2, h⟩
def kitT : List (String × String × Bool) := [("NoneType", "int", false), ("NoneType", "str", false), ("NoneType", "tuple", false), ("NoneType", "bool", false), ("bool", "int", true), ("bool", "str", false), ("bool", "tuple", false), ("bool", "bool", true),
  ("int", "int", true), ("int", "str", false), ("int", "tuple", false), ("int", "bool", false), ("str", "int", false), ("str", "str", true), ("str", "tuple", false), ("str", "bool", false),
  ("tuple", "int", false), ("tuple", "str", false), ("tuple", "tuple", true), ("tuple", "bool", false), ("list", "int", false), ("list", "str", false), ("list", "tuple", false), ("list", "bool", false), ("list", "list", true), ("tuple", "list", false),
  ("dict", "int", false), ("dict", "str", false), ("dict", "tuple", false), ("dict", "bool", false), ("dict", "list", false), ("dict", "dict", true), ("list", "dict", false), ("NoneType", "list", false), ("bool", "list", false), ("int", "list", false), ("str", "list", false)]
theorem kit_all : kitT.all (fun p => kitB p.1 p.2.1 == some p.2.2) = true := by decide +kernel
theorem kit_of' {n o : String} {b : Bool} (h : (n, o, b) ∈ kitT) : kitB n o = some b := by
  have := List.all_eq_true.mp kit_all _ h
  simpa using this
theorem kit_t {n o : String} (h : (n, o, true) ∈ kitT) : kitB n o = some true := kit_of' h
theorem kit_f {n o : String} (h : (n, o, false) ∈ kitT) : kitB n o = some false := kit_of' h
theorem xf_isiT {m : Mp} {k : K3} {d : D} {n o : String} (h1 : TyD m d n) (h2 : (n, o, true) ∈ kitT) (h : k (.bl true) m) : fIsi [d, .ty o] m k := ⟨d, o, n, true, rfl, h1, kit_t h2, h⟩
theorem xf_isiF {m : Mp} {k : K3} {d : D} {n o : String} (h1 : TyD m d n) (h2 : (n, o, false) ∈ kitT) (h : k (.bl false) m) : fIsi [d, .ty o] m k := ⟨d, o, n, false, rfl, h1, kit_f h2, h⟩
theorem x_gtp {n : Nat} {gs : TGs3} {kk : S3 → Mp → Prop} (h0 : l.length = n) (h : gs l s m kk) : gTp n gs (.tup l) s m kk := ⟨l, rfl, h0, h⟩
theorem x_gls {n : Nat} {gs : TGs3} {kk : S3 → Mp → Prop} (h0 : RL m p l) (h1 : l.length = n) (h : gs l s m kk) : gLs n gs (.ref p) s m kk := ⟨p, l, rfl, h0, h1, h⟩
theorem x_gs1 {g : TG3} {gs : TGs3} {kk : S3 → Mp → Prop} (h : g d s m (fun s' m' => gs l s' m' kk)) : gs1 g gs (d :: l) s m kk := ⟨d, l, rfl, h⟩
theorem x_gs0 {kk : S3 → Mp → Prop} (h : kk s m) : gs0 [] s m kk := ⟨rfl, h⟩
/-! what is walked -/
theorem x_for {it : TI3} {g : TG3} (h : it s m (fun l R m1 => ∃ P : Nat → S3 → Mp → Prop, P 0 s m1 ∧ (∀ i s m, i ≤ l.length → P i s m → R m) ∧
  (∀ i d s m, l[i]? = some d → P i s m → g d s m (fun s2 m2 => t ⟨P (i + 1), rt, nx, P (i + 1), ex⟩ s2 m2)) ∧ ∀ s m, P l.length s m → nx s m) (ex s)) : sFor it g t ⟨nx, rt, bk, ct, ex⟩ s m := h
theorem x_isq {ki : List D → (Mp → Prop) → Mp → Prop} (h : A s m (fun d m1 => itD d m1 ki) x) : iSq A s m ki x := h
theorem x_itL {ki : List D → (Mp → Prop) → Mp → Prop} (h1 : RL m p l) (h : ki l (fun m' => RL m' p l) m) : itD (.ref p) m ki := .inl ⟨l, h1, h⟩
theorem x_itD {kvs : List (Key × D)} {ki : List D → (Mp → Prop) → Mp → Prop} (h1 : m p = some (.rdK kvs)) (h : ki (kvs.map fun e => keyD e.1) (fun m' => m' p = some (.rdK kvs)) m) : itD (.ref p) m ki := .inr ⟨kvs, h1, h⟩
theorem x_itT {ki : List D → (Mp → Prop) → Mp → Prop} (h : ki l (fun _ => True) m) : itD (.tup l) m ki := h
theorem x_itS {z : Str} {ki : List D → (Mp → Prop) → Mp → Prop} (h : ki (signs z) (fun _ => True) m) : itD (.str z) m ki := h
theorem x_ir1 {ki : List D → (Mp → Prop) → Mp → Prop} (h : R s m (fun ds m1 => ∃ j : Int, ds = [.int j] ∧ B62 j ∧ ki (rngD 0 1 j.toNat) (fun _ => True) m1) x) : iR1 R s m ki x := h
theorem x_ir1' {n : Int} {Z : Int → Prop} (h0 : B62 n) (h : Z n) : ∃ j : Int, [D.int n] = [.int j] ∧ B62 j ∧ Z j := ⟨n, rfl, h0, h⟩
theorem x_ir3 {ki : List D → (Mp → Prop) → Mp → Prop} (h : R s m (fun ds m1 => ∃ (i j c : Int) (n : Nat), ds = [.int i, .int j, .int c] ∧ RgC i j c n ∧ ki (rngD i c n) (fun _ => True) m1) x) : iR3 R s m ki x := h
theorem x_izp {ki : List D → (Mp → Prop) → Mp → Prop} (h : R s m (fun ds m1 => (∃ q q' l r, ds = [.ref q, .ref q'] ∧ RL m1 q l ∧ RL m1 q' r ∧ ki (zipD l r) (fun m => RL m q l ∧ RL m q' r) m1) ∨ ∃ l r, ds = [.tup l, .tup r] ∧ ki (zipD l r) (fun _ => True) m1) x) : iZp R s m ki x := h
theorem x_izT {ki : List D → (Mp → Prop) → Mp → Prop} (h : ki (zipD l r) (fun _ => True) m) : (∃ q q' l' r', [D.tup l, D.tup r] = [.ref q, .ref q'] ∧ RL m q l' ∧ RL m q' r' ∧ ki (zipD l' r') (fun m => RL m q l' ∧ RL m q' r') m) ∨ ∃ l' r', [D.tup l, D.tup r] = [.tup l', .tup r'] ∧ ki (zipD l' r') (fun _ => True) m := .inr ⟨l, r, rfl, h⟩
end
theorem x_lc {it : TI3} {i : Nat} {t : TT3} {B : TE3} {s : S3} {m : Mp} {k : K3} {x : X3} (h : it s m (fun l R m1 => ∀ q, m1 q = none → ∃ P : Nat → Mp → Prop, P 0 (mset m1 q (.lst [])) ∧ (∀ j m, j ≤ l.length → P j m → R m) ∧
  (∀ j d m, l[j]? = some d → P j m → t (s.set i (some d)) m (fun b m3 => if b = true then B (s.set i (some d)) m3 (fun y m4 => ∃ acc, m4 q = some (.lst acc) ∧ acc.length < sizeLine ∧ P (j + 1) (mset m4 q (.lst (acc ++ [y])))) noX else P (j + 1) m3) noX) ∧
  ∀ m, P l.length m → k (.ref q) m) x) : eLc it i t B s m k x := h
/-- a comprehension: from what stands ahead of element j to what stands ahead of j + 1 -/
theorem lc3 {l : List D} {Rm : Mp → Prop} {t : TT3} {B : TE3} {s : S3} {m : Mp} {i : Nat} {q : Addr} {k : K3} (P : Nat → Mp → Prop) (h0 : P 0 (mset m q (.lst []))) (hR : ∀ j m, j ≤ l.length → P j m → Rm m)
    (hs : ∀ j d m, l[j]? = some d → P j m → t (s.set i (some d)) m (fun b m3 => if b = true then B (s.set i (some d)) m3 (fun y m4 => ∃ acc, m4 q = some (.lst acc) ∧ acc.length < sizeLine ∧ P (j + 1) (mset m4 q (.lst (acc ++ [y])))) noX else P (j + 1) m3) noX)
    (hd : ∀ m, P l.length m → k (.ref q) m) : ∃ P : Nat → Mp → Prop, P 0 (mset m q (.lst [])) ∧ (∀ j m, j ≤ l.length → P j m → Rm m) ∧
  (∀ j d m, l[j]? = some d → P j m → t (s.set i (some d)) m (fun b m3 => if b = true then B (s.set i (some d)) m3 (fun y m4 => ∃ acc, m4 q = some (.lst acc) ∧ acc.length < sizeLine ∧ P (j + 1) (mset m4 q (.lst (acc ++ [y])))) noX else P (j + 1) m3) noX) ∧
  ∀ m, P l.length m → k (.ref q) m := ⟨P, h0, hR, hs, hd⟩
theorem signs_get {z : Str} {i : Nat} {d : D} (h : (signs z)[i]? = some d) : ∃ c, z.cps.toList[i]? = some c ∧ d = .str ⟨#[c]⟩ := by
  unfold signs at h
  rw [List.getElem?_map] at h
  cases e : z.cps.toList[i]? with
  | none => rw [e] at h; cases h
  | some c => rw [e] at h; exact ⟨c, rfl, (Option.some.inj h).symm⟩
theorem signs_length {z : Str} : (signs z).length = z.cps.toList.length := by simp [signs]
theorem x_whl {t : TT3} {u : TS3} {nx bk ct : S3 → Mp → Prop} {rt : K3} {ex : S3 → X3} {s : S3} {m : Mp} (P : Nat → S3 → Mp → Prop) (n : Nat) (h0 : P n s m)
    (h : ∀ n s m, P n s m → t s m (fun b m1 => if b = true then u ⟨fun s' m' => ∃ n', n' < n ∧ P n' s' m', rt, nx, fun s' m' => ∃ n', n' < n ∧ P n' s' m', ex⟩ s m1 else nx s m1) (ex s)) : sWhl t u ⟨nx, rt, bk, ct, ex⟩ s m := ⟨P, ⟨n, h0⟩, h⟩
/-- a for: from what stands at turn i to what stands at turn i + 1 -/
theorem for3 {l : List D} {Rm : Mp → Prop} {g : TG3} {t : TS3} {nx : S3 → Mp → Prop} {rt : K3} {ex : S3 → X3} {s : S3} {m : Mp} (P : Nat → S3 → Mp → Prop) (h0 : P 0 s m) (hR : ∀ i s m, i ≤ l.length → P i s m → Rm m)
    (hs : ∀ i d s m, l[i]? = some d → P i s m → g d s m (fun s2 m2 => t ⟨P (i + 1), rt, nx, P (i + 1), ex⟩ s2 m2)) (hd : ∀ s m, P l.length s m → nx s m) :
    ∃ P : Nat → S3 → Mp → Prop, P 0 s m ∧ (∀ i s m, i ≤ l.length → P i s m → Rm m) ∧ (∀ i d s m, l[i]? = some d → P i s m → g d s m (fun s2 m2 => t ⟨P (i + 1), rt, nx, P (i + 1), ex⟩ s2 m2)) ∧ ∀ s m, P l.length s m → nx s m := ⟨P, h0, hR, hs, hd⟩
end PV

/-! Frames; draws; what things look like as data. -/
namespace PV
open PySem L2 PyProof.Rows
theorem cdivw {i j : Int} (h0 : 0 < j) (h1 : j < 2 ^ 1000) : CDivW i j := wide_div h0 (show j.natAbs < 2 ^ 1000 by omega) (by decide) (by decide)
theorem cmulw {i j : Int} (h0 : -(2 ^ 400) < i ∧ i < 2 ^ 400) (h1 : -(2 ^ 400) < j ∧ j < 2 ^ 400) : CMulX i j := Nat.lt_trans (wide_mul (i := i) (j := j) (a := 400) (b := 400) (by omega) (by omega) (by decide) (by decide) (by decide)) (by decide)
theorem ne_none' {m : Mp} {a b : Addr} {o : O} (h : m b = none) (h' : m a = some o) : a ≠ b := ne_none h' h
def Fr (ps : List Addr) (m m' : Mp) : Prop := m'.kl = m.kl ∧ ∀ a o, a ∉ ps → m a = some o → m' a = some o
theorem Fr.refl (ps : List Addr) (m : Mp) : Fr ps m m := ⟨rfl, fun _ _ _ h => h⟩
theorem Fr.at {ps : List Addr} {m m' : Mp} {a : Addr} {o : O} (h : Fr ps m m') (n : a ∉ ps) (e : m a = some o) : m' a = some o := h.2 a o n e
theorem Fr.new {ps : List Addr} {m m' : Mp} {z : Addr} {o : O} (h : Fr ps m m') (hz : m' z = none) : Fr ps m (mset m' z o) := ⟨h.1, fun a u n e => by
  rw [mset_ne (ne_none (h.2 a u n e) hz)]
  exact h.2 a u n e⟩
theorem Fr.gone {ps : List Addr} {m m' : Mp} {z : Addr} (h : Fr ps m m') (hz : m' z = none) : z ∈ ps ∨ m z = none := by
  by_cases hp : z ∈ ps
  · exact .inl hp
  · refine .inr ?_
    cases e : m z with
    | none => rfl
    | some o => rw [h.2 z o hp e] at hz; cases hz
theorem Fr.set {ps : List Addr} {m m' : Mp} {p : Addr} {o : O} (h : Fr ps m m') (hp : p ∈ ps ∨ m p = none) : Fr ps m (mset m' p o) := ⟨h.1, fun a u n e => by
  have : a ≠ p := by
    rintro rfl
    rcases hp with hp | hp
    · exact n hp
    · rw [e] at hp; cases hp
  rw [mset_ne this]
  exact h.2 a u n e⟩
def Ins (qs ps : List Addr) (m : Mp) : Prop := ∀ a ∈ qs, a ∈ ps ∨ m a = none
theorem Ins.nil {ps : List Addr} {m : Mp} : Ins [] ps m := fun _ h => by cases h
theorem Ins.cons {ps qs : List Addr} {m : Mp} {a : Addr} (h : a ∈ ps ∨ m a = none) (h' : Ins qs ps m) : Ins (a :: qs) ps m := fun b hb => by
  rcases List.mem_cons.mp hb with rfl | hb
  · exact h
  · exact h' b hb
theorem Fr.sub {ps qs : List Addr} {m m' m'' : Mp} (h' : Fr qs m' m'') (hs : Ins qs ps m) (h : Fr ps m m') : Fr ps m m'' := ⟨h'.1.trans h.1, fun a o n e => by
  refine h'.2 a o (fun hq => ?_) (h.2 a o n e)
  rcases hs a hq with z | z
  · exact n z
  · rw [e] at z; cases z⟩
theorem ni_nil {a : Addr} : a ∉ ([] : List Addr) := fun h => by cases h
theorem ni_cons {a b : Addr} {l : List Addr} (h : a ≠ b) (h' : a ∉ l) : a ∉ b :: l := fun z => by
  rcases List.mem_cons.mp z with z | z
  · exact h z
  · exact h' z
theorem in_h {a : Addr} {l : List Addr} : a ∈ a :: l := List.mem_cons_self ..
theorem in_t {a b : Addr} {l : List Addr} (h : a ∈ l) : a ∈ b :: l := List.mem_cons_of_mem _ h
theorem xf_pow6 {m : Mp} {k : K3} (h : k (.int 1000000) m) : fPow (.int 10) (.int 6) m k := ⟨10, 6, rfl, rfl, by unfold CPow; decide, h⟩
theorem xf_pow15 {m : Mp} {k : K3} (h : k (.int 1000000000000000) m) : fPow (.int 10) (.int 15) m k := ⟨10, 15, rfl, rfl, by unfold CPow; decide, h⟩
theorem xf_pow30 {m : Mp} {k : K3} (h : k (.int 1000000000000000000000000000000) m) : fPow (.int 10) (.int 30) m k := ⟨10, 30, rfl, rfl, by unfold CPow; decide, h⟩
theorem RL.new {m : Mp} {p z : Addr} {l : List D} {o : O} (h : RL m p l) (hz : m z = none) : RL (mset m z o) p l := h.le ((Le.refl m).new hz)
/-- the script: read alone, and nothing of ours can be it -/
def Scr (m : Mp) (p : Addr) (l : List D) : Prop := m p = some (.rol l) ∨ m.kl p = some l
theorem Scr.rl {m : Mp} {p : Addr} {l : List D} (h : Scr m p l) : RL m p l := .inr h
theorem Scr.new {m : Mp} {p z : Addr} {l : List D} {o : O} (h : Scr m p l) (hz : m z = none) : Scr (mset m z o) p l := by
  rcases h with h | h
  · refine .inl ?_
    rw [mset_ne (ne_none h hz)]; exact h
  · exact .inr h
theorem Scr.fr {m m' : Mp} {p : Addr} {l : List D} (h : Scr m p l) (f : Fr [] m m') : Scr m' p l := by
  rcases h with h | h
  · exact .inl (f.at ni_nil h)
  · exact .inr (f.1 ▸ h)
/-! draws -/
def RowOk (row : List D) : Prop := ∃ x w : Int, row = [.int x, .int w] ∧ (w = 0 ∨ (0 ≤ x ∧ x < 536870909))
theorem fx_M {m : Mp} {k : K3} {p : Addr} {l : List D} {n : Int} (h1 : RL m p l) (h2 : 0 ≤ n) (h3 : n < l.length) (h : ∀ d, d ∈ l → atI l n = some d → k d m) : fIx (.ref p) (.int n) m k := by
  have hj : n.toNat < l.length := by omega
  have e : atI l n = some l[n.toNat] := by
    unfold atI ixN
    rw [if_pos h2, if_pos h3]
    exact List.getElem?_eq_getElem hj
  exact .inl ⟨n, l, _, rfl, h1, e, h _ (List.getElem_mem hj) e⟩
theorem atI_nat {α : Type} {l : List α} {n : Int} (h2 : 0 ≤ n) (h3 : n < l.length) : ∃ (hj : n.toNat < l.length), atI l n = some l[n.toNat] := by
  have hj : n.toNat < l.length := by omega
  refine ⟨hj, ?_⟩
  unfold atI ixN
  rw [if_pos h2, if_pos h3]
  exact List.getElem?_eq_getElem hj
/-! things -/
mutual
def D.sz : D → Nat
  | .tup l => 1 + D.szs l
  | .non => 1 | .bl _ => 1 | .int _ => 1 | .str _ => 1 | .ref _ => 1 | .ty _ => 1
def D.szs : List D → Nat
  | [] => 0
  | d :: l => D.sz d + D.szs l
end
theorem szs_app {l r : List D} : D.szs (l ++ r) = D.szs l + D.szs r := by
  induction l with
  | nil => simp [D.szs]
  | cons d l ih => simp [D.szs, ih]; omega
theorem szs_take {l : List D} {n : Nat} : D.szs (l.take n) ≤ D.szs l := by
  have := szs_app (l := l.take n) (r := l.drop n)
  rw [List.take_append_drop] at this
  omega
theorem szs_mem {l : List D} {d : D} (h : d ∈ l) : D.sz d ≤ D.szs l := by
  induction l with
  | nil => cases h
  | cons e l ih =>
    rcases List.mem_cons.mp h with rfl | h
    · simp [D.szs]
    · have := ih h; simp [D.szs]; omega
theorem szs_rep {n : Nat} {d : D} : D.szs (List.replicate n d) = n * D.sz d := by
  induction n with
  | zero => simp [D.szs]
  | succ n ih => rw [List.replicate_succ]; simp [D.szs, ih]; rw [Nat.succ_mul]; omega
/-- one of the 94 signs -/
def SgOk (c : Nat) : Prop := 32 ≤ c ∧ c ≤ 126 ∧ c ≠ 37
def big30 : Int := 1000000000000000000000000000000
def NumOk (i : Int) : Prop := -1000000000000000000000000000000 ≤ i ∧ i ≤ 1000000000000000000000000000000
def TxtOk (z : Str) : Prop := z.cps.toList.length ≤ 60 ∧ ∀ c ∈ z.cps.toList, SgOk c
def Fine : Nat → D → Prop
  | _, .non => True
  | _, .int i => NumOk i
  | _, .str z => TxtOk z
  | n + 1, .tup l => l.length ≤ 40 ∧ ∀ d ∈ l, Fine n d
  | _, _ => False
theorem Fine.non {n : Nat} : Fine n .non := by cases n <;> trivial
theorem Fine.int {n : Nat} {i : Int} (h : NumOk i) : Fine n (.int i) := by cases n <;> exact h
theorem Fine.str {n : Nat} {z : Str} (h : TxtOk z) : Fine n (.str z) := by cases n <;> exact h
theorem Fine.tup {n : Nat} {l : List D} (h : l.length ≤ 40) (h' : ∀ d ∈ l, Fine n d) : Fine (n + 1) (.tup l) := ⟨h, h'⟩
theorem Fine.num {n : Nat} {i : Int} (h : Fine n (.int i)) : NumOk i := by cases n <;> exact h
theorem Fine.txt {n : Nat} {z : Str} (h : Fine n (.str z)) : TxtOk z := by cases n <;> exact h
theorem Fine.parts {n : Nat} {l : List D} (h : Fine n (.tup l)) : ∃ k, n = k + 1 ∧ l.length ≤ 40 ∧ ∀ d ∈ l, Fine k d := by
  cases n with
  | zero => cases h
  | succ k => exact ⟨k, rfl, h.1, h.2⟩
theorem Fine.up {n : Nat} : ∀ {d : D}, Fine n d → Fine (n + 1) d := by
  induction n with
  | zero => intro d h; cases d with
    | tup l => exact h.elim
    | _ => exact h
  | succ n ih => intro d h; cases d with
    | tup l => exact ⟨h.1, fun e he => ih (h.2 e he)⟩
    | _ => exact h
theorem Fine.le {n k : Nat} {d : D} (h : Fine n d) (e : n ≤ k) : Fine k d := by
  induction e with
  | refl => exact h
  | step _ ih => exact ih.up
/-- what a fine one is -/
theorem Fine.cases {n : Nat} {d : D} (h : Fine n d) : d = .non ∨ (∃ i, d = .int i ∧ NumOk i) ∨ (∃ z, d = .str z ∧ TxtOk z) ∨ ∃ l k, d = .tup l ∧ n = k + 1 ∧ l.length ≤ 40 ∧ ∀ e ∈ l, Fine k e := by
  cases d with
  | non => exact .inl rfl
  | int i => exact .inr (.inl ⟨i, rfl, h.num⟩)
  | str z => exact .inr (.inr (.inl ⟨z, rfl, h.txt⟩))
  | tup l => obtain ⟨k, a, b, c⟩ := h.parts; exact .inr (.inr (.inr ⟨l, k, rfl, a, b, c⟩))
  | _ => cases n <;> cases h
theorem str_len {z : Str} : z.length = z.cps.toList.length := by show z.cps.size = _; simp
theorem str_app {z y : Str} : (z ++ y).cps.toList = z.cps.toList ++ y.cps.toList := by
  show (z.cps ++ y.cps).toList = _
  simp
theorem fx_S {m : Mp} {k : K3} {z : Str} {n : Int} (h0 : z.cps.toList.length ≤ 100000) (h2 : 0 ≤ n) (h3 : n < z.cps.toList.length) (h : ∀ c, c ∈ z.cps.toList → atI z.cps.toList n = some c → k (.str ⟨#[c]⟩) m) : fIx (.str z) (.int n) m k := by
  obtain ⟨hj, e⟩ := atI_nat h2 h3
  exact ⟨by rw [str_len]; exact Nat.le_trans h0 (by decide), _, e, h _ (List.getElem_mem hj) e⟩
theorem xf_addS' {n o : Str} {m : Mp} {k : K3} (h0 : n.cps.toList.length + o.cps.toList.length ≤ 100000) (h : k (.str (n ++ o)) m) : fAdd (.str n) (.str o) m k := ⟨by rw [str_len, str_len]; exact Nat.le_trans h0 (by decide), h⟩
theorem pow10_le {i n : Nat} (h : i ≤ n) : (10:Int) ^ i ≤ 10 ^ n := by exact_mod_cast Nat.pow_le_pow_right (by decide) h
theorem pow10_pos {i : Nat} : (0:Int) < 10 ^ i := by exact_mod_cast Nat.pow_pos (by decide)
end PV

/-! Things as data: equality, order. -/
namespace PV
open PySem L2 PyProof.Rows
mutual
def toP : D → PyData
  | .non => .none | .bl b => .bool b | .int i => .int i | .str z => .str z | .tup l => .tuple (toPs l) | .ref _ => .none | .ty _ => .none
def toPs : List D → List PyData
  | [] => []
  | d :: l => toP d :: toPs l
end
theorem DPs.of {m : Mp} : ∀ {l : List D}, (∀ d ∈ l, DP m d (toP d)) → DPs m l (toPs l)
  | [], _ => .nil
  | d :: l, h => .cons (h d (List.mem_cons_self ..)) (DPs.of fun e he => h e (List.mem_cons_of_mem _ he))
theorem Fine.dp {m : Mp} : ∀ {n : Nat} {d : D}, Fine n d → DP m d (toP d) := by
  intro n
  induction n with
  | zero => intro d h; cases d with
    | non => exact .non
    | int i => exact .int i
    | str z => exact .str z
    | _ => cases h
  | succ n ih => intro d h; cases d with
    | non => exact .non
    | int i => exact .int i
    | str z => exact .str z
    | tup l => exact .tup (DPs.of fun e he => ih (h.2 e he))
    | _ => cases h
theorem depthAll_of {n : Nat} : ∀ {l : List D}, (∀ d ∈ l, (toP d).depth ≤ n) → PyData.depthAll (toPs l) ≤ n
  | [], _ => Nat.zero_le _
  | d :: l, h => by
    have h1 := h d (List.mem_cons_self ..)
    have h2 := depthAll_of fun e he => h e (List.mem_cons_of_mem _ he)
    show max (toP d).depth (PyData.depthAll (toPs l)) ≤ n
    omega
theorem Fine.depth : ∀ {n : Nat} {d : D}, Fine n d → (toP d).depth ≤ n := by
  intro n
  induction n with
  | zero => intro d h; cases d with
    | tup l => cases h
    | _ => exact Nat.zero_le _
  | succ n ih => intro d h; cases d with
    | tup l =>
      have := depthAll_of fun e he => ih (h.2 e he)
      show PyData.depthAll (toPs l) + 1 ≤ n + 1
      omega
    | _ => exact Nat.zero_le _
theorem eqvAll_of {n : Nat} (ih : ∀ {a b : D}, Fine n a → Fine n b → (PyData.eqv (toP a) (toP b) = true ↔ a = b)) : ∀ {l r : List D}, (∀ d ∈ l, Fine n d) → (∀ d ∈ r, Fine n d) → (PyData.eqvAll (toPs l) (toPs r) = true ↔ l = r)
  | [], [], _, _ => by simp [toPs, PyData.eqvAll]
  | [], _ :: _, _, _ => by simp [toPs, PyData.eqvAll]
  | _ :: _, [], _, _ => by simp [toPs, PyData.eqvAll]
  | a :: l, b :: r, h, h' => by
    have h1 := ih (h a (List.mem_cons_self ..)) (h' b (List.mem_cons_self ..))
    have h2 := eqvAll_of ih (fun e he => h e (List.mem_cons_of_mem _ he)) (fun e he => h' e (List.mem_cons_of_mem _ he))
    simp only [toPs, PyData.eqvAll, Bool.and_eq_true, h1, h2, List.cons.injEq]
theorem eqv_iff : ∀ {n : Nat} {a b : D}, Fine n a → Fine n b → (PyData.eqv (toP a) (toP b) = true ↔ a = b) := by
  intro n
  induction n with
  | zero => intro a b h h'; cases a <;> cases b <;> first | exact (show False from h).elim | exact (show False from h').elim | (simp [toP, PyData.eqv])
  | succ n ih => intro a b h h'; cases a <;> cases b <;> first | exact (show False from h).elim | exact (show False from h').elim | skip
                 all_goals first | (simp [toP, PyData.eqv]; done) | skip
                 rename_i l r
                 simp only [toP, PyData.eqv, D.tup.injEq]
                 exact eqvAll_of ih h.2 h'.2
open Classical in
theorem eqv_fine {n k : Nat} {a b : D} (h : Fine n a) (h' : Fine k b) : PyData.eqv (toP a) (toP b) = decide (a = b) := by
  have := eqv_iff (h.le (Nat.le_max_left n k)) (h'.le (Nat.le_max_right n k))
  by_cases e : a = b
  · rw [decide_eq_true e]; exact this.mpr e
  · rw [decide_eq_false e]
    cases q : PyData.eqv (toP a) (toP b) with
    | false => rfl
    | true => exact absurd (this.mp q) e
open Classical in
theorem xf_eqF {n j : Nat} {a b : D} {m : Mp} {k : K3} (h1 : Fine n a) (h2 : Fine j b) (hn : n ≤ 64) (h : k (.bl (decide (a = b))) m) : fEq a b m k :=
  ⟨_, _, h1.dp, h2.dp, peq_l (Nat.le_trans h1.depth hn), by rw [eqv_fine h1 h2]; exact h⟩
open Classical in
theorem xf_neF {n j : Nat} {a b : D} {m : Mp} {k : K3} (h1 : Fine n a) (h2 : Fine j b) (hn : n ≤ 64) (h : k (.bl (!decide (a = b))) m) : fNe a b m k :=
  ⟨_, _, h1.dp, h2.dp, peq_l (Nat.le_trans h1.depth hn), by rw [eqv_fine h1 h2]; exact h⟩
/-! ### lists of ints: < -/
abbrev ltL (a b : List Int) : Bool := PySem.W.listLt a b
theorem toPs_ints {m : Mp} : ∀ {ns : List Int}, DPs m (ns.map D.int) (ns.map PyData.int)
  | [] => .nil
  | n :: ns => .cons (.int n) toPs_ints
theorem depth_ints : ∀ {ns : List Int}, PyData.depthAll (ns.map PyData.int) ≤ 0
  | [] => Nat.le_refl _
  | n :: ns => by
    have := depth_ints (ns := ns)
    show max 0 (PyData.depthAll (ns.map PyData.int)) ≤ 0
    omega
theorem xf_ltL {m : Mp} {k : K3} {p q : Addr} {a b : List Int} (h1 : RL m p (a.map D.int)) (h2 : RL m q (b.map D.int)) (h : k (.bl (ltL a b)) m) : fLt (.ref p) (.ref q) m k := by
  show ∃ d e, DP m (.ref p) d ∧ DP m (.ref q) e ∧ PEq d e ∧ PySem.W.alike d e = true ∧ d ≠ .none ∧ k (.bl (PySem.W.dataLt d e)) m
  refine ⟨.list (a.map PyData.int), .list (b.map PyData.int), .lst h1 toPs_ints, .lst h2 toPs_ints, ?_, ?_, by simp, ?_⟩
  · refine peq_l ?_
    have := depth_ints (ns := a)
    show PyData.depthAll (a.map PyData.int) + 1 ≤ 64
    omega
  · exact PySem.W.alikeAll_map (α := Int) a b
  · have : PySem.W.dataLt (.list (a.map PyData.int)) (.list (b.map PyData.int)) = ltL a b := PySem.W.lexAll_map (α := Int) a b
    rw [this]; exact h
/-! ### the row of a thing -/
mutual
def rowD : D → List Int
  | .non => [0]
  | .int i => [1, i]
  | .str z => 2 :: (z.cps.toList.map fun c : Nat => (c : Int)) ++ [-1]
  | .tup l => 3 :: rowsD l ++ [-1]
  | .bl _ => [0] | .ref _ => [0] | .ty _ => [0]
def rowsD : List D → List Int
  | [] => []
  | d :: l => rowD d ++ rowsD l
end
def kindD : D → Int
  | .non => 0 | .int _ => 1 | .str _ => 2 | .tup _ => 3 | _ => 0
theorem rowsD_app {l r : List D} : rowsD (l ++ r) = rowsD l ++ rowsD r := by
  induction l with
  | nil => rfl
  | cons d l ih => simp [rowsD, ih]
theorem row_head (d : D) : ∃ t, rowD d = kindD d :: t := by
  cases d <;> exact ⟨_, rfl⟩
theorem kind_nn (d : D) : 0 ≤ kindD d := by cases d <;> simp [kindD]
theorem rows_len {n : Nat} (ih : ∀ d, Fine n d → (rowD d).length ≤ 63 * d.sz) : ∀ {l : List D}, (∀ d ∈ l, Fine n d) → (rowsD l).length ≤ 63 * D.szs l
  | [], _ => by simp [rowsD]
  | d :: l, h => by
    have h1 := ih d (h d (List.mem_cons_self ..))
    have h2 := rows_len ih fun e he => h e (List.mem_cons_of_mem _ he)
    simp only [rowsD, List.length_append, D.szs]
    omega
theorem Fine.row_len : ∀ {n : Nat} {d : D}, Fine n d → (rowD d).length ≤ 63 * d.sz := by
  intro n
  induction n with
  | zero => intro d h; cases d with
    | str z => have := h.1; simp [rowD, D.sz] at *; omega
    | tup l => cases h
    | _ => simp [rowD, D.sz]
  | succ n ih => intro d h; cases d with
    | str z => have := h.1; simp [rowD, D.sz] at *; omega
    | tup l =>
      have := rows_len (n := n) (fun d hd => ih hd) h.2
      simp only [rowD, D.sz, List.length_cons, List.length_append, List.length_nil]
      omega
    | _ => simp [rowD, D.sz]
/-- the two part somewhere -/
def Dv (x y : List Int) : Prop := ∃ p u v s t, x = p ++ u :: s ∧ y = p ++ v :: t ∧ u ≠ v
theorem Dv.app {x y : List Int} (h : Dv x y) (a b : List Int) : Dv (x ++ a) (y ++ b) := by
  obtain ⟨p, u, v, s, t, rfl, rfl, h⟩ := h
  exact ⟨p, u, v, s ++ a, t ++ b, by simp, by simp, h⟩
theorem Dv.pre {x y : List Int} (h : Dv x y) (a : List Int) : Dv (a ++ x) (a ++ y) := by
  obtain ⟨p, u, v, s, t, rfl, rfl, h⟩ := h
  exact ⟨a ++ p, u, v, s, t, by simp, by simp, h⟩
theorem ltL_pre : ∀ (p : List Int) {x y : List Int}, ltL (p ++ x) (p ++ y) = ltL x y
  | [], _, _ => rfl
  | a :: p, x, y => by
    show (if a = a then ltL (p ++ x) (p ++ y) else _) = _
    rw [if_pos rfl]; exact ltL_pre p
theorem ltL_ne {u v : Int} {s t : List Int} (h : u ≠ v) : ltL (u :: s) (v :: t) = decide (u < v) := by
  show (if u = v then _ else _) = _
  rw [if_neg h]; rfl
theorem Dv.lt_app {x y : List Int} (h : Dv x y) (a b : List Int) : ltL (x ++ a) (y ++ b) = ltL x y := by
  obtain ⟨p, u, v, s, t, rfl, rfl, h⟩ := h
  rw [List.append_assoc, List.append_assoc, ltL_pre, ltL_pre, List.cons_append, List.cons_append, ltL_ne h, ltL_ne h]
theorem Dv.tri {x y : List Int} (h : Dv x y) : ltL y x = !ltL x y := by
  obtain ⟨p, u, v, s, t, rfl, rfl, h⟩ := h
  rw [ltL_pre, ltL_pre, ltL_ne h, ltL_ne (Ne.symm h)]
  by_cases q : u < v
  · rw [decide_eq_true q, decide_eq_false (by omega)]; rfl
  · rw [decide_eq_false q, decide_eq_true (by omega)]; rfl
theorem ltL_self : ∀ x : List Int, ltL x x = false
  | [] => rfl
  | a :: x => by
    show (if a = a then ltL x x else _) = _
    rw [if_pos rfl]; exact ltL_self x
theorem dv_codes : ∀ {a b : List Nat}, a ≠ b → Dv ((a.map fun c : Nat => (c : Int)) ++ [-1]) ((b.map fun c : Nat => (c : Int)) ++ [-1])
  | [], [], h => absurd rfl h
  | [], c :: b, _ => ⟨[], -1, c, [], (b.map fun c : Nat => (c : Int)) ++ [-1], rfl, by simp, by omega⟩
  | c :: a, [], _ => ⟨[], c, -1, (a.map fun c : Nat => (c : Int)) ++ [-1], [], by simp, rfl, by omega⟩
  | c :: a, e :: b, h => by
    by_cases q : c = e
    · subst q
      have := dv_codes (a := a) (b := b) (fun z => h (by rw [z]))
      exact this.pre [(c : Int)]
    · exact ⟨[], c, e, (a.map fun c : Nat => (c : Int)) ++ [-1], (b.map fun c : Nat => (c : Int)) ++ [-1], by simp, by simp, by omega⟩
theorem lt_codes : ∀ {a b : List Nat}, ltL ((a.map fun c : Nat => (c : Int)) ++ [-1]) ((b.map fun c : Nat => (c : Int)) ++ [-1]) = decide (a < b)
  | [], [] => by simp [ltL_self]
  | [], c :: b => by
    show ltL (-1 :: []) ((c : Int) :: _) = _
    rw [ltL_ne (by omega)]
    simp
    omega
  | c :: a, [] => by
    show ltL ((c : Int) :: _) (-1 :: []) = _
    rw [ltL_ne (by omega)]
    simp
  | c :: a, e :: b => by
    by_cases q : c = e
    · subst q
      have := lt_codes (a := a) (b := b)
      show ltL ([(c : Int)] ++ ((a.map fun c : Nat => (c : Int)) ++ [-1])) ([(c : Int)] ++ ((b.map fun c : Nat => (c : Int)) ++ [-1])) = _
      rw [ltL_pre, this]
      simp [List.cons_lt_cons_iff]
    · show ltL ((c : Int) :: _) ((e : Int) :: _) = _
      rw [ltL_ne (by omega)]
      simp [List.cons_lt_cons_iff, q]
theorem dv_rows {n : Nat} (ih : ∀ {a b : D}, Fine n a → Fine n b → a ≠ b → Dv (rowD a) (rowD b)) : ∀ {l r : List D}, (∀ d ∈ l, Fine n d) → (∀ d ∈ r, Fine n d) → l ≠ r → Dv (rowsD l ++ [-1]) (rowsD r ++ [-1])
  | [], [], _, _, h => absurd rfl h
  | [], d :: r, _, _, _ => by
    obtain ⟨t, e⟩ := row_head d
    have := kind_nn d
    refine ⟨[], -1, kindD d, [], t ++ rowsD r ++ [-1], rfl, ?_, by omega⟩
    simp [rowsD, e]
  | d :: r, [], _, _, _ => by
    obtain ⟨t, e⟩ := row_head d
    have := kind_nn d
    refine ⟨[], kindD d, -1, t ++ rowsD r ++ [-1], [], ?_, rfl, by omega⟩
    simp [rowsD, e]
  | a :: l, b :: r, h1, h2, h => by
    by_cases q : a = b
    · subst q
      have := dv_rows ih (l := l) (r := r) (fun e he => h1 e (List.mem_cons_of_mem _ he)) (fun e he => h2 e (List.mem_cons_of_mem _ he)) (fun z => h (by rw [z]))
      simp only [rowsD, List.append_assoc]
      exact this.pre _
    · have := ih (h1 a (List.mem_cons_self ..)) (h2 b (List.mem_cons_self ..)) q
      simp only [rowsD, List.append_assoc]
      exact this.app _ _
theorem dv_row : ∀ {n : Nat} {a b : D}, Fine n a → Fine n b → a ≠ b → Dv (rowD a) (rowD b) := by
  intro n
  induction n with
  | zero =>
    intro a b h h' ne
    by_cases q : kindD a = kindD b
    · cases a <;> cases b <;> first | exact (show False from h).elim | exact (show False from h').elim | (simp [kindD] at q; done) | exact absurd rfl ne | skip
      · rename_i i j; exact ⟨[1], i, j, [], [], rfl, rfl, fun z => ne (by rw [z])⟩
      · rename_i i j
        exact (dv_codes (fun z => ne (by rw [PySem.W.str_of_cps z]))).pre [2]
    · obtain ⟨t, e⟩ := row_head a
      obtain ⟨t', e'⟩ := row_head b
      exact ⟨[], _, _, t, t', e, e', q⟩
  | succ n ih =>
    intro a b h h' ne
    by_cases q : kindD a = kindD b
    · cases a <;> cases b <;> first | exact (show False from h).elim | exact (show False from h').elim | (simp [kindD] at q; done) | exact absurd rfl ne | skip
      · rename_i i j; exact ⟨[1], i, j, [], [], rfl, rfl, fun z => ne (by rw [z])⟩
      · rename_i i j
        exact (dv_codes (fun z => ne (by rw [PySem.W.str_of_cps z]))).pre [2]
      · rename_i l r
        exact (dv_rows ih h.2 h'.2 (fun z => ne (by rw [z]))).pre [3]
    · obtain ⟨t, e⟩ := row_head a
      obtain ⟨t', e'⟩ := row_head b
      exact ⟨[], _, _, t, t', e, e', q⟩
theorem Fine.dv {n k : Nat} {a b : D} (h : Fine n a) (h' : Fine k b) (ne : a ≠ b) : Dv (rowD a) (rowD b) := dv_row (h.le (Nat.le_max_left n k)) (h'.le (Nat.le_max_right n k)) ne
theorem row_kinds {a b : D} (h : kindD a ≠ kindD b) : ltL (rowD a) (rowD b) = decide (kindD a < kindD b) := by
  obtain ⟨t, e⟩ := row_head a
  obtain ⟨t', e'⟩ := row_head b
  rw [e, e', ltL_ne h]
open Classical in
/-- which is ahead -/
noncomputable def sideD (a b : D) : Int := if a = b then 0 else if ltL (rowD a) (rowD b) = true then -1 else 1
theorem sideD_self (a : D) : sideD a a = 0 := if_pos rfl
theorem sideD_ne {a b : D} (h : a ≠ b) : sideD a b = if ltL (rowD a) (rowD b) = true then -1 else 1 := if_neg h
theorem sideD_zero {a b : D} : sideD a b = 0 ↔ a = b := by
  constructor
  · intro h
    by_cases e : a = b
    · exact e
    · rw [sideD_ne e] at h; split at h <;> cases h
  · intro h; rw [h]; exact sideD_self b
theorem sideD_neg {a b : D} : sideD a b < 0 ↔ ltL (rowD a) (rowD b) = true := by
  by_cases e : a = b
  · subst e; rw [sideD_self, ltL_self]; simp
  · rw [sideD_ne e]
    split
    · rename_i h; simp [h]
    · rename_i h; simp [h]
theorem side_int {i j : Int} (h : D.int i ≠ D.int j) : sideD (.int i) (.int j) = if i < j then -1 else 1 := by
  rw [sideD_ne h]
  have : ltL (rowD (.int i)) (rowD (.int j)) = decide (i < j) := by
    show ltL ([1] ++ [i]) ([1] ++ [j]) = _
    rw [ltL_pre, ltL_ne (fun z => h (by rw [z]))]
  rw [this]; simp
theorem side_str {i j : Str} (h : D.str i ≠ D.str j) : sideD (.str i) (.str j) = if i.cps.toList < j.cps.toList then -1 else 1 := by
  rw [sideD_ne h]
  have : ltL (rowD (.str i)) (rowD (.str j)) = decide (i.cps.toList < j.cps.toList) := by
    rw [← lt_codes]
    exact ltL_pre [2]
  rw [this]; simp
theorem parts_at {l : List D} {i : Nat} {x : D} (h : l[i]? = some x) : rowsD l = rowsD (l.take i) ++ (rowD x ++ rowsD (l.drop (i + 1))) := by
  obtain ⟨hi, e⟩ := List.getElem?_eq_some_iff.mp h
  have : l = l.take i ++ (x :: l.drop (i + 1)) := by
    rw [← e, ← List.drop_eq_getElem_cons hi, List.take_append_drop]
  conv => lhs; rw [this, rowsD_app]
  rfl
theorem side_part {n k : Nat} {l r : List D} {i : Nat} {x y : D} (e : l.take i = r.take i) (hx : l[i]? = some x) (hy : r[i]? = some y) (h1 : Fine n x) (h2 : Fine k y) (ne : x ≠ y) : sideD (.tup l) (.tup r) = sideD x y := by
  have : D.tup l ≠ .tup r := by
    rintro z
    injection z with z
    rw [z] at hx
    rw [hx] at hy
    injection hy with hy
    exact ne hy
  rw [sideD_ne this, sideD_ne ne]
  have q : ltL (rowD (.tup l)) (rowD (.tup r)) = ltL (rowD x) (rowD y) := by
    show ltL ([3] ++ rowsD l ++ [-1]) ([3] ++ rowsD r ++ [-1]) = _
    rw [parts_at hx, parts_at hy, e]
    simp only [List.append_assoc]
    rw [ltL_pre, ltL_pre]
    exact (h1.dv h2 ne).lt_app _ _
  rw [q]
theorem side_len {l r : List D} (e : l.take (min l.length r.length) = r.take (min l.length r.length)) (ne : l ≠ r) : sideD (.tup l) (.tup r) = if l.length < r.length then -1 else 1 := by
  have : D.tup l ≠ .tup r := fun z => ne (by injection z)
  rw [sideD_ne this]
  have q : ltL (rowD (.tup l)) (rowD (.tup r)) = decide (l.length < r.length) := by
    show ltL ([3] ++ rowsD l ++ [-1]) ([3] ++ rowsD r ++ [-1]) = _
    by_cases h : l.length < r.length
    · rw [Nat.min_eq_left (by omega), List.take_length] at e
      have hr : r[l.length]? = some r[l.length] := List.getElem?_eq_getElem h
      rw [parts_at hr, ← e, decide_eq_true h]
      simp only [List.append_assoc]
      rw [ltL_pre, ltL_pre]
      obtain ⟨t, et⟩ := row_head r[l.length]
      rw [et]
      have := kind_nn r[l.length]
      show ltL (-1 :: []) (_ :: _) = true
      rw [ltL_ne (by omega), decide_eq_true (by omega)]
    · by_cases h' : l.length = r.length
      · rw [h', Nat.min_self, ← h', List.take_length, h', List.take_length] at e
        exact absurd e ne
      · rw [Nat.min_eq_right (by omega), List.take_length] at e
        have hl : l[r.length]? = some l[r.length] := List.getElem?_eq_getElem (by omega)
        rw [parts_at hl, e, decide_eq_false h]
        simp only [List.append_assoc]
        rw [ltL_pre, ltL_pre]
        obtain ⟨t, et⟩ := row_head l[r.length]
        rw [et]
        have := kind_nn l[r.length]
        show ltL (_ :: _) (-1 :: []) = false
        rw [ltL_ne (by omega), decide_eq_false (by omega)]
  rw [q]; simp
theorem take_next {l r : List D} {i : Nat} {x : D} (e : l.take i = r.take i) (hx : l[i]? = some x) (hy : r[i]? = some x) : l.take (i + 1) = r.take (i + 1) := by
  rw [List.take_add_one, List.take_add_one, e, hx, hy]
/-! ### slices -/
theorem mem_cutD {l : List D} {lo hi : Option Int} {d : D} (h : d ∈ cutD l lo hi) : d ∈ l := List.mem_of_mem_drop (List.mem_of_mem_take h)
theorem len_cutD {l : List D} {lo hi : Option Int} : (cutD l lo hi).length ≤ l.length := by
  unfold cutD; rw [List.length_take, List.length_drop]; omega
theorem szs_drop {l : List D} {n : Nat} : D.szs (l.drop n) ≤ D.szs l := by
  have := szs_app (l := l.take n) (r := l.drop n)
  rw [List.take_append_drop] at this
  omega
theorem szs_cutD {l : List D} {lo hi : Option Int} : D.szs (cutD l lo hi) ≤ D.szs l := Nat.le_trans szs_take szs_drop
theorem cutD_take {l : List D} {n : Nat} : cutD l none (some (n : Int)) = l.take n := by
  unfold cutD
  rw [HT.sIx_nat, HT.sIx_none, List.drop_zero, Nat.sub_zero]
  by_cases h : n ≤ l.length
  · rw [Nat.min_eq_left h]
  · rw [Nat.min_eq_right (by omega), List.take_length, List.take_of_length_le (by omega)]
theorem cutD_drop {l : List D} {n : Nat} : cutD l (some (n : Int)) none = l.drop n := by
  unfold cutD
  rw [HT.sIx_nat, HT.sIx_none]
  by_cases h : n ≤ l.length
  · rw [Nat.min_eq_left h]; exact List.take_of_length_le (by simp)
  · rw [Nat.min_eq_right (by omega), List.drop_eq_nil_of_le (Nat.le_refl _), List.drop_eq_nil_of_le (by omega)]; simp
theorem szs_at {l : List D} {i : Nat} {x : D} (h : l[i]? = some x) : D.szs l = D.szs (l.take i) + (x.sz + D.szs (l.drop (i + 1))) := by
  obtain ⟨hi, e⟩ := List.getElem?_eq_some_iff.mp h
  have : l = l.take i ++ (x :: l.drop (i + 1)) := by
    rw [← e, ← List.drop_eq_getElem_cons hi, List.take_append_drop]
  conv => lhs; rw [this, szs_app]
  rfl
theorem cutS_list {z : Str} {lo hi : Option Int} : (cutS z lo hi).cps.toList = (z.cps.toList.drop (HT.sIx z.length 0 lo)).take (HT.sIx z.length z.length hi - HT.sIx z.length 0 lo) := by
  unfold cutS; simp
theorem mem_cutS {z : Str} {lo hi : Option Int} {c : Nat} (h : c ∈ (cutS z lo hi).cps.toList) : c ∈ z.cps.toList := by
  rw [cutS_list] at h
  exact List.mem_of_mem_drop (List.mem_of_mem_take h)
theorem len_cutS {z : Str} {lo hi : Option Int} : (cutS z lo hi).cps.toList.length ≤ z.cps.toList.length := by
  rw [cutS_list, List.length_take, List.length_drop]; omega
theorem len_cutS_n {z : Str} {n : Nat} : (cutS z none (some (n : Int))).cps.toList.length ≤ n := by
  rw [cutS_list, HT.sIx_nat, List.length_take]; omega
theorem TxtOk.cut {z : Str} {lo hi : Option Int} (h : TxtOk z) : TxtOk (cutS z lo hi) := ⟨Nat.le_trans len_cutS h.1, fun c hc => h.2 c (mem_cutS hc)⟩
theorem xf_slS' {m : Mp} {k : K3} {lo hi : Option Int} {z : Str} (h0 : z.cps.toList.length ≤ 100000) (h : k (.str (cutS z lo hi)) m) : fSl (.str z) lo hi m k := ⟨by rw [str_len]; exact Nat.le_trans h0 (by decide), h⟩
theorem fx_T {m : Mp} {k : K3} {l : List D} {n : Int} (h2 : 0 ≤ n) (h3 : n < l.length) (h : ∀ d, d ∈ l → l[n.toNat]? = some d → k d m) : fIx (.tup l) (.int n) m k := by
  obtain ⟨hj, e⟩ := atI_nat h2 h3
  exact ⟨_, e, h _ (List.getElem_mem hj) (List.getElem?_eq_getElem hj)⟩
theorem len_cutD_n {l : List D} {n : Nat} : (cutD l none (some (n : Int))).length ≤ n := by rw [cutD_take, List.length_take]; omega
theorem rep_flat {n : Nat} {d : D} : (List.replicate n [d]).flatten = List.replicate n d := by simp
end PV

/-! From the promises to the law. -/
namespace PV
open PySem L2 PyProof.Rows
section
variable {P : Program} {w : World} {K : PySem.W.Frag} {mg : Str → Option Value} {base : Heap} {cl : Cl}
theorem fn0 {CXx : CXT} {fa : Addr} {fd : FuncData} {ps : List Str} {S : FSpec} : FnOk P w K mg base CXx 0 fa fd ps (liftSp K cl S 0) :=
  ⟨fun vs H Q E ⟨_, _, _, _, _, h, _⟩ => absurd h (Nat.not_lt_zero _), fun A outer s H args us vs Q E _ _ _ _ ⟨_, _, _, _, _, h, _⟩ => absurd h (Nat.not_lt_zero _)⟩
theorem kn_mk {tab : Nat → FSpec} {L i : Nat} {x qual f : Str} {st : Stmt} {fa : Addr} {fd : FuncData} {ps : List Str} (at_ : mg f = some (.ref fa)) (F : Fun K x qual st fa fd) (hb : Binds K fd ps [])
    (ok : FnOk P w K mg base (L2.CX P w) L fa fd ps (liftSp K cl (tab i) L)) : Kn P w K mg base cl (fun i S => S = tab i) L i f fa :=
  ⟨at_, F.kp, fun S e => by subst e; exact ⟨fd, ps, ok, hb⟩⟩
theorem reps_ints {H : Hp} : ∀ {ns : List Int}, Reps K H (ns.map D.int) (ns.map V.int)
  | [] => rfl
  | n :: ns => ⟨_, _, rfl, rfl, reps_ints⟩
theorem scr_start {H : Hp} {a : Addr} {ns : List Int} (hO : Only H) (hS : SqL K H a (ns.map V.int)) : ∃ m, Ab K cl H m ∧ Scr m a (ns.map D.int) := by
  rcases hS with hS | hS
  · have h : ∃ o, H a = some (.frz o (.lst (ns.map V.int))) := by
      rcases hS with hS | ⟨o, hS⟩
      · rcases hO a with e | ⟨o, xs, e⟩
        · rw [hS] at e; cases e
        · rw [hS] at e; cases e
      · exact ⟨o, hS⟩
    obtain ⟨o, h⟩ := h
    refine ⟨⟨fun b => if b = a then some (.rol (ns.map D.int)) else none, fun _ => none⟩, ⟨fun b u e => ?_, fun b l e => (by cases e)⟩, .inl (if_pos rfl)⟩
    dsimp only at e
    split at e
    · rename_i q
      cases e; subst q
      exact ⟨o, _, h, reps_ints⟩
    · cases e
  · refine ⟨⟨fun _ => none, fun b => if b = a then some (ns.map D.int) else none⟩, ⟨fun b u e => (by cases e), fun b l e => ?_⟩, .inr (if_pos rfl)⟩
    dsimp only at e
    split at e
    · rename_i q
      cases e; subst q
      exact ⟨_, hS, fun _ => reps_ints⟩
    · cases e
/-- a law's promise: True, and nothing raised -/
theorem law_sp {S : FSpec} {H : Hp} {a : Addr} {ns : List Int} {L : Nat} (al : S.al) (hl : S.lev al < L) (hO : Only H) (hS : SqL K H a (ns.map V.int))
    (pre : ∀ m, Scr m a (ns.map D.int) → S.pre al [.ref a] m) (post : ∀ m d m', S.post al m d m' → d = .bl true) (exc : ∀ m x m', ¬ S.exc al m x m') :
    liftSp K cl S L [.ref a] H (fun v _ => v = .bl true) fun _ _ _ => False := by
  obtain ⟨m, h1, h2⟩ := scr_start (cl := cl) hO hS
  refine ⟨[.ref a], m, al, ⟨_, _, rfl, rfl, rfl⟩, h1, hl, pre m h2, fun d m' h v H' r _ _ => ?_, fun x m' h => absurd h (exc _ _ _)⟩
  have := post _ _ _ h
  subst this
  exact r
/-- the law's promise as it is wanted: of a script, True, and nothing raised -/
def rawSp (K : PySem.W.Frag) : Sp := fun vs H Q _ => ∃ (a : Addr) (ns : List Int), vs = [.ref a] ∧ Only H ∧ SqL K H a (ns.map V.int) ∧ ∀ v H', v = V.bl true → Q v H'
theorem raw_of {S : FSpec} {L : Nat} (al : Addr → List Int → S.al) (hl : ∀ a ns, S.lev (al a ns) < L) (pre : ∀ a ns m, Scr m a (ns.map D.int) → S.pre (al a ns) [.ref a] m) (post : ∀ al m d m', S.post al m d m' → d = .bl true)
    (exc : ∀ al m x m', ¬ S.exc al m x m') : ∀ vs H Q E, rawSp K vs H Q E → liftSp K cl S L vs H Q E := by
  rintro vs H Q E ⟨a, ns, rfl, hO, hS, hq⟩
  obtain ⟨m, h1, h2⟩ := scr_start (cl := cl) hO hS
  refine ⟨[.ref a], m, al a ns, ⟨_, _, rfl, rfl, rfl⟩, h1, hl a ns, pre a ns m h2, fun d m' h v H' r _ _ => ?_, fun x m' h => absurd h (exc _ _ _ _)⟩
  have := post _ _ _ _ h
  subst this
  exact hq v H' r
end
end PV

/-! Codes and seals of things. -/
namespace PV
open PySem L2 PyProof.Rows
/-- a piece of at most seven signs, as a number -/
def chunkD (l : List Nat) : Int := l.foldl (fun (a : Int) (c : Nat) => 128 * a + c) 0
def chunkN (l : List Nat) : Nat := (l.length + 6) / 7
def chunkAt (l : List Nat) (i : Nat) : Int := chunkD ((l.drop (7 * i)).take 7)
def tcodes (l : List Nat) : List Int := (List.range (chunkN l)).map (chunkAt l)
mutual
def codeD : D → List Int
  | .non => [1]
  | .int i => [2, (i + 1000000000000000000000000000000) / 1000000000000000, (i + 1000000000000000000000000000000) % 1000000000000000]
  | .str z => 3 :: (z.cps.toList.length : Int) :: tcodes z.cps.toList
  | .tup l => 4 :: (l.length : Int) :: codesD l
  | .bl _ => [1] | .ref _ => [1] | .ty _ => [1]
def codesD : List D → List Int
  | [] => []
  | d :: l => codeD d ++ codesD l
end
def sealOn (a : Int) (l : List Int) : Int := l.foldl (fun a c => (a * 1234567890123456789 + c) % 2305843009213693951) a
def sealD (d : D) : Int := sealOn 7 (codeD d) + 1
theorem codesD_app {l r : List D} : codesD (l ++ r) = codesD l ++ codesD r := by
  induction l with
  | nil => rfl
  | cons d l ih => simp [codesD, ih]
theorem tcodes_len {l : List Nat} : (tcodes l).length = chunkN l := by simp [tcodes]
theorem codes_len {n : Nat} (ih : ∀ d, Fine n d → (codeD d).length ≤ 12 * d.sz) : ∀ {l : List D}, (∀ d ∈ l, Fine n d) → (codesD l).length ≤ 12 * D.szs l
  | [], _ => by simp [codesD]
  | d :: l, h => by
    have h1 := ih d (h d (List.mem_cons_self ..))
    have h2 := codes_len ih fun e he => h e (List.mem_cons_of_mem _ he)
    simp only [codesD, List.length_append, D.szs]
    omega
theorem Fine.code_len : ∀ {n : Nat} {d : D}, Fine n d → (codeD d).length ≤ 12 * d.sz := by
  intro n
  induction n with
  | zero => intro d h; cases d with
    | str z => have := h.1; simp only [codeD, D.sz, List.length_cons, tcodes_len, chunkN]; omega
    | tup l => cases h
    | _ => simp [codeD, D.sz]
  | succ n ih => intro d h; cases d with
    | str z => have := h.1; simp only [codeD, D.sz, List.length_cons, tcodes_len, chunkN]; omega
    | tup l =>
      have := codes_len (n := n) (fun d hd => ih hd) h.2
      simp only [codeD, D.sz, List.length_cons]
      omega
    | _ => simp [codeD, D.sz]
theorem sealOn_nn {a : Int} (h0 : 0 ≤ a) (h1 : a < 2305843009213693951) : ∀ (l : List Int), 0 ≤ sealOn a l ∧ sealOn a l < 2305843009213693951 := by
  intro l
  induction l generalizing a with
  | nil => exact ⟨h0, h1⟩
  | cons c l ih => exact ih (Int.emod_nonneg _ (by decide)) (Int.emod_lt_of_pos _ (by decide))
theorem sealD_pos (d : D) : 1 ≤ sealD d ∧ sealD d ≤ 2305843009213693951 := by
  have := sealOn_nn (a := 7) (by decide) (by decide) (codeD d)
  unfold sealD; omega
theorem sealOn_app {a : Int} {l r : List Int} : sealOn a (l ++ r) = sealOn (sealOn a l) r := by unfold sealOn; rw [List.foldl_append]
theorem fits_of {i : Int} (h : 0 ≤ i) (h' : i < 1000000) : Builtin.Range.rangeFitsLong i = true := by
  unfold Builtin.Range.rangeFitsLong
  rw [decide_eq_true (by omega), decide_eq_true (by omega)]; rfl
theorem rgc7 {n : Nat} (h : n ≤ 100000) : RgC 0 n 7 ((n + 6) / 7) := by
  have e : Builtin.Range.rangeSize 0 n 7 = ((n + 6) / 7 : Nat) := by
    rw [rangeSize_pos (by decide) (by omega)]
    omega
  refine ⟨by decide, by decide, ?_, e⟩
  unfold Builtin.Range.small
  rw [e, fits_of (i := 0) (by decide) (by decide), fits_of (i := (n : Int)) (by omega) (by omega), fits_of (i := 7) (by decide) (by decide), fits_of (i := (((n + 6) / 7 : Nat) : Int)) (by omega) (by omega), if_pos (by decide), fits_of (by omega) (by omega)]
  simp
theorem chunk_bound : ∀ {l : List Nat} {a : Int} {b : Int}, 0 ≤ a → a < b → (∀ c ∈ l, c < 128) → 0 ≤ l.foldl (fun (a : Int) (c : Nat) => 128 * a + c) a ∧ l.foldl (fun (a : Int) (c : Nat) => 128 * a + c) a < b * 128 ^ l.length
  | [], a, b, h0, h1, _ => by simp; omega
  | c :: l, a, b, h0, h1, h => by
    have hc := h c (List.mem_cons_self ..)
    have := chunk_bound (l := l) (a := 128 * a + c) (b := b * 128) (by omega) (by omega) (fun e he => h e (List.mem_cons_of_mem _ he))
    rw [List.foldl_cons, List.length_cons, Int.pow_succ]
    refine ⟨this.1, ?_⟩
    have e : b * (128 ^ l.length * 128) = b * 128 * 128 ^ l.length := by rw [Int.mul_comm (128 ^ l.length) 128, Int.mul_assoc]
    rw [e]; exact this.2
theorem chunk_take_next {l : List Nat} {i : Nat} {c : Nat} (h : l[i]? = some c) : chunkD (l.take (i + 1)) = 128 * chunkD (l.take i) + c := by
  rw [List.take_add_one, h]
  unfold chunkD
  rw [List.foldl_append]; rfl
theorem chunk_small {l : List Nat} (h : ∀ c ∈ l, c < 128) (hl : l.length ≤ 7) : 0 ≤ chunkD l ∧ chunkD l < 1000000000000000000 := by
  have := chunk_bound (l := l) (a := 0) (b := 1) (by decide) (by decide) h
  refine ⟨this.1, Int.lt_of_lt_of_le this.2 ?_⟩
  have : (128:Int) ^ l.length ≤ 128 ^ 7 := by exact_mod_cast Nat.pow_le_pow_right (by decide) hl
  omega
theorem tcodes_next {l : List Nat} {i : Nat} : ((List.range (i + 1)).map (chunkAt l)) = ((List.range i).map (chunkAt l)) ++ [chunkAt l i] := by
  rw [List.range_succ, List.map_append]; rfl
/-- the piece cut -/
theorem cut_chunk {z : Str} {i : Nat} (h : 7 * i ≤ z.cps.toList.length) : (cutS z (some ((7 * i : Nat) : Int)) (some ((7 * i + 7 : Nat) : Int))).cps.toList = (z.cps.toList.drop (7 * i)).take 7 := by
  rw [cutS_list, HT.sIx_nat, HT.sIx_nat, str_len, Nat.min_eq_left h]
  by_cases q : 7 * i + 7 ≤ z.cps.toList.length
  · rw [Nat.min_eq_left q, show 7 * i + 7 - 7 * i = 7 by omega]
  · rw [Nat.min_eq_right (by omega), List.take_of_length_le (by simp), List.take_of_length_le (by simp; simp at q; omega)]
theorem xf_lenS' {m : Mp} {k : K3} {z : Str} (h0 : z.cps.toList.length ≤ 100000) (h : k (.int z.cps.toList.length) m) : fLen [.str z] m k := ⟨by rw [str_len]; exact Nat.le_trans h0 (by decide), by rw [str_len]; exact h⟩
theorem x_ir3' {i j c : Int} {n : Nat} {Z : Int → Int → Int → Nat → Prop} (h0 : RgC i j c n) (h : Z i j c n) : ∃ (i' j' c' : Int) (n' : Nat), [D.int i, D.int j, D.int c] = [.int i', .int j', .int c'] ∧ RgC i' j' c' n' ∧ Z i' j' c' n' := ⟨i, j, c, n, rfl, h0, h⟩
theorem sg_lt {z : Str} (h : TxtOk z) {c : Nat} (hc : c ∈ z.cps.toList) : c < 128 := by have := (h.2 c hc).2.1; omega
theorem pw_at {e : Nat} (h : e ≤ 6) : atI [D.int 1, .int 128, .int 16384, .int 2097152, .int 268435456, .int 34359738368, .int 4398046511104] (e : Int) = some (.int (128 ^ e)) := by
  have : e = 0 ∨ e = 1 ∨ e = 2 ∨ e = 3 ∨ e = 4 ∨ e = 5 ∨ e = 6 := by omega
  rcases this with rfl | rfl | rfl | rfl | rfl | rfl | rfl <;> rfl
theorem sum_snoc {l : List Int} {a : Int} : (l ++ [a]).sum = l.sum + a := by simp
end PV

/-! Seals: alike and unlike. -/
namespace PV
open PySem L2 PyProof.Rows
theorem em_seal (x c : Int) : ((x % 2305843009213693951) * 1234567890123456789 + c) % 2305843009213693951 = (x * 1234567890123456789 + c) % 2305843009213693951 := by
  rw [Int.add_emod, Int.mul_emod, Int.emod_emod, ← Int.mul_emod, ← Int.add_emod]
theorem inj_a {a b k : Int} (I J M B : Int) (hI : I * B = M * J + 1) (e : B * (a - b) = M * k) : a - b = M * (I * k - J * (a - b)) := by
  have e3 : I * (B * (a - b)) = I * (M * k) := by rw [e]
  rw [← Int.mul_assoc, hI, Int.add_mul, Int.one_mul] at e3
  rw [Int.mul_sub, ← Int.mul_assoc M J, ← Int.mul_assoc M I, Int.mul_comm M I, Int.mul_assoc I M]
  omega
theorem inj_b {a b c B M : Int} (h : (a * B + c) % M = (b * B + c) % M) : ∃ k, B * (a - b) = M * k := by
  refine ⟨(a * B + c) / M - (b * B + c) / M, ?_⟩
  have e1 := Int.emod_add_mul_ediv (a * B + c) M
  have e2 := Int.emod_add_mul_ediv (b * B + c) M
  rw [h] at e1
  rw [Int.mul_sub, Int.mul_sub, Int.mul_comm B a, Int.mul_comm B b]
  omega
theorem inj_seal {a b c : Int} (h0 : 0 ≤ a) (h1 : a < 2305843009213693951) (h2 : 0 ≤ b) (h3 : b < 2305843009213693951) (h : (a * 1234567890123456789 + c) % 2305843009213693951 = (b * 1234567890123456789 + c) % 2305843009213693951) : a = b := by
  obtain ⟨k, e⟩ := inj_b h
  have e4 := inj_a 2179019607881955056 1166665566168714833 _ _ (by decide) e
  generalize (2179019607881955056 : Int) * k - 1166665566168714833 * (a - b) = t at e4
  clear e h
  omega
theorem inj_on : ∀ (l : List Int) {a b : Int}, 0 ≤ a → a < 2305843009213693951 → 0 ≤ b → b < 2305843009213693951 → a ≠ b → sealOn a l ≠ sealOn b l
  | [], _, _, _, _, _, _, h => h
  | c :: l, a, b, h0, h1, h2, h3, h => by
    refine inj_on l (Int.emod_nonneg _ (by decide)) (Int.emod_lt_of_pos _ (by decide)) (Int.emod_nonneg _ (by decide)) (Int.emod_lt_of_pos _ (by decide)) (fun e => h (inj_seal h0 h1 h2 h3 e))
/-- alike wherever they stand, unlike wherever they stand -/
def SA (x y : List Int) : Prop := ∀ a, sealOn a x = sealOn a y
def DA (x y : List Int) : Prop := ∀ a, sealOn a x ≠ sealOn a y
theorem SA.mid {x y : List Int} (h : SA x y) (p q : List Int) : SA (p ++ x ++ q) (p ++ y ++ q) := fun a => by
  rw [sealOn_app, sealOn_app, sealOn_app, sealOn_app, h]
theorem DA.mid {x y : List Int} (h : DA x y) (hx : x ≠ []) (hy : y ≠ []) (p q : List Int) : DA (p ++ x ++ q) (p ++ y ++ q) := fun a => by
  rw [sealOn_app, sealOn_app, sealOn_app, sealOn_app]
  have nn : ∀ (z : List Int), z ≠ [] → ∀ b, 0 ≤ sealOn b z ∧ sealOn b z < 2305843009213693951 := fun z hz b => by
    cases z with
    | nil => exact absurd rfl hz
    | cons c z => exact sealOn_nn (Int.emod_nonneg _ (by decide)) (Int.emod_lt_of_pos _ (by decide)) z
  exact inj_on q (nn x hx _).1 (nn x hx _).2 (nn y hy _).1 (nn y hy _).2 (h _)
theorem sealOn3 (a h l : Int) : sealOn a [2, h, l] = (((a * 1234567890123456789 + 2) * 1234567890123456789 + h) * 1234567890123456789 + l) % 2305843009213693951 := by
  show ((((a * 1234567890123456789 + 2) % 2305843009213693951) * 1234567890123456789 + h) % 2305843009213693951 * 1234567890123456789 + l) % 2305843009213693951 = _
  rw [em_seal]
  generalize a * 1234567890123456789 + 2 = b
  rw [Int.add_emod, Int.mul_emod, em_seal, ← Int.mul_emod, ← Int.add_emod]
/-- the two numbers of a pair have codes that are alike -/
theorem sa_num {h l t r : Int} (e : (t * 1234567890123456789) % 2305843009213693951 = r % 2305843009213693951) : SA [2, h, l] [2, h + t, l - r] := fun a => by
  rw [sealOn3, sealOn3]
  generalize (a * 1234567890123456789 + 2) * 1234567890123456789 = b
  have e1 : ((b + (h + t)) * 1234567890123456789 + (l - r)) = ((b + h) * 1234567890123456789 + l) + (t * 1234567890123456789 - r) := by omega
  rw [e1]
  have e2 : (t * 1234567890123456789 - r) % 2305843009213693951 = 0 := Int.emod_eq_emod_iff_emod_sub_eq_zero.mp e
  rw [Int.add_emod _ (t * 1234567890123456789 - r), e2, Int.add_zero, Int.emod_emod]
theorem da_num {h l v : Int} (hv : v = 1 ∨ v = -1) : DA [2, h, l] [2, h, l + v] := fun a => by
  rw [sealOn3, sealOn3]
  generalize ((a * 1234567890123456789 + 2) * 1234567890123456789 + h) * 1234567890123456789 = b
  omega
end PV

/-! Exceptions: raised, caught, asked; classes: made, fields, methods. -/
namespace PV
open PySem L2 PyProof.Rows
/-- is an exception of the class C one of the class n -/
def subX (C n : String) : Bool := C == n || n == "VaultError" || n == "ValueError"
/-! ### what the written part says of the exception classes -/
/-- one fact a row: each is read off the written part -/
structure ExF (K : PySem.W.Frag) (a : Addr) : Prop where
  ga : PySem.W.findIn K (.ref a) "__getattribute__" = some (some (.builtin "BaseException.__getattribute__"))
  gg : PySem.W.findIn K (.ref a) "__getattr__" = some none
  sb : PySem.W.subIn K (.ref a) (.type "BaseException") = some true
  hd : PySem.W.hasDictIn K a = true
  ty : PySem.W.typeIn K (.ref a) = some (.type "type")
  cls : PySem.W.findIn K (.ref a) "__class__" = some (some (.builtin "object.__class__"))
  mro : PySem.W.mroIn K a (.type "object") = some true
  kp : PySem.W.keepIn K (.ref a) = true
  ve : PySem.W.subIn K (.ref a) (.type "ValueError") = some true
  non : PySem.W.subIn K (.type "NoneType") (.ref a) = some false
  gs : PySem.W.specialIn K (.builtin "object.__class__") "__get__" = some (some (.builtin "getset_descriptor.__get__"))
  tk : PySem.W.takesIn K (.builtin "object.__class__") = some true
  is : PySem.W.isClsIn K a = true
  eq : PySem.W.findIn K (.ref a) "__eq__" = some (some (.builtin "object.__eq__"))
  n1 : PySem.W.subIn K (.ref a) (.type "int") = some false
  n2 : PySem.W.subIn K (.ref a) (.type "str") = some false
  n3 : PySem.W.subIn K (.ref a) (.type "tuple") = some false
  n4 : PySem.W.subIn K (.ref a) (.type "list") = some false
  n5 : PySem.W.subIn K (.ref a) (.type "bool") = some false
/-- kinds that no exception is of -/
def plainT : List String := ["int", "str", "tuple", "list", "bool"]
structure ExB (K : PySem.W.Frag) (a : Addr) : Prop where
  xf : XfC K a
  ty : PySem.W.typeIn K (.ref a) = some (.type "type")
  cls : PySem.W.findIn K (.ref a) "__class__" = some (some (.builtin "object.__class__"))
  mro : PySem.W.mroIn K a (.type "object") = some true
  kp : PySem.W.keepIn K (.ref a) = true
  ve : PySem.W.kitOne K (.ref a) (.type "ValueError") = some true
  non : PySem.W.kitOne K (.type "NoneType") (.ref a) = some false
  gs : PySem.W.specialIn K (.builtin "object.__class__") "__get__" = some (some (.builtin "getset_descriptor.__get__"))
  tk : PySem.W.takesIn K (.builtin "object.__class__") = some true
  is : (PySem.W.clsIn K a).isSome = true
  eq : PySem.W.findIn K (.ref a) "__eq__" = some (some (.builtin "object.__eq__"))
  nb : ∀ T ∈ plainT, PySem.W.kitOne K (.ref a) (.type T) = some false
theorem kit_ref {K : PySem.W.Frag} {t : Value} {a : Addr} (h1 : PySem.W.isClsIn K a = true) (h2 : PySem.W.typeIn K (.ref a) = some (.type "type")) : PySem.W.kitCls K t (.ref a) = PySem.W.subIn K t (.ref a) := by
  have e2 : ((PySem.W.clsIn K a).isSome && PySem.W.typeIn K (.ref a) == some (.type "type")) = true := by
    rw [show (PySem.W.clsIn K a).isSome = true from h1, h2]; rfl
  show (if ((PySem.W.clsIn K a).isSome && PySem.W.typeIn K (.ref a) == some (.type "type")) = true then PySem.W.subIn K t (.ref a) else none) = _
  rw [if_pos e2]
theorem kit_bt {K : PySem.W.Frag} {a : Addr} {T : String} {b : Bool} (hm : PySem.W.kitMeta T = true) (h : PySem.W.subIn K (.ref a) (.type T) = some b) : PySem.W.kitOne K (.ref a) (.type T) = some b := by
  show (if ((Value.ref a == Value.type T) = true) then some true else PySem.W.kitCls K (.ref a) (.type T)) = _
  rw [if_neg (by intro z; cases z)]
  show (if PySem.W.kitMeta T = true then PySem.W.subIn K (.ref a) (.type T) else none) = _
  rw [if_pos hm]; exact h
theorem ExF.b {K : PySem.W.Frag} {a : Addr} (h : ExF K a) : ExB K a := by
  refine ⟨?_, h.ty, h.cls, h.mro, h.kp, ?_, ?_, h.gs, h.tk, h.is, h.eq, ?_⟩
  · refine xfB_ok ?_
    unfold xfB
    rw [decide_eq_true h.ga, decide_eq_true h.gg, decide_eq_true h.sb, h.hd]; rfl
  · show (if ((Value.ref a == Value.type "ValueError") = true) then some true else PySem.W.kitCls K (.ref a) (.type "ValueError")) = _
    rw [if_neg (by intro z; cases z)]
    show (if PySem.W.kitMeta "ValueError" = true then PySem.W.subIn K (.ref a) (.type "ValueError") else none) = _
    rw [if_pos (by decide +kernel)]; exact h.ve
  · show (if ((Value.type "NoneType" == Value.ref a) = true) then some true else PySem.W.kitCls K (.type "NoneType") (.ref a)) = _
    rw [if_neg (by intro z; cases z), kit_ref h.is h.ty]; exact h.non
  · intro T hT
    simp only [plainT, List.mem_cons, List.not_mem_nil, or_false] at hT
    rcases hT with rfl | rfl | rfl | rfl | rfl
    · exact kit_bt (by decide +kernel) h.n1
    · exact kit_bt (by decide +kernel) h.n2
    · exact kit_bt (by decide +kernel) h.n3
    · exact kit_bt (by decide +kernel) h.n4
    · exact kit_bt (by decide +kernel) h.n5
/-- .. of all of them -/
structure ExK (K : PySem.W.Frag) (mg : Str → Option Value) (cl : Cl) : Prop where
  at_ : ∀ n ∈ eNames, ∀ a, cl n = some a → mg (Str.ofString n) = some (.ref a)
  ok : ∀ n ∈ eNames, ∀ a, cl n = some a → ExB K a
  own : ∀ n ∈ eNames, n ≠ "Clash" → ∀ a, cl n = some a → PySem.W.excIn K a [.type "ValueError", .type "Exception", .type "BaseException", .type "object"] "ValueError.__new__" = true
  sub : ∀ n ∈ eNames, ∀ a, cl n = some a → ∀ n' ∈ eNames, ∀ a', cl n' = some a' → PySem.W.kitOne K (.ref a) (.ref a') = some (subX n n') ∧ PySem.W.exmOne K (.ref a) (.ref a') = some (subX n n')
theorem subX_self (n : String) : subX n n = true := by simp [subX]
/-- classes by a list -/
def clOf (w : World) (l : List (String × Addr)) : Cl := ⟨fun n => l.lookup n, w⟩
theorem clOf_mem {w : World} {l : List (String × Addr)} {n : String} {a : Addr} (h : clOf w l n = some a) : (n, a) ∈ l := by
  unfold clOf at h
  dsimp only at h
  induction l with
  | nil => cases h
  | cons p l ih =>
    obtain ⟨k, b⟩ := p
    rw [List.lookup_cons] at h
    split at h
    · rename_i e
      have : n = k := by simpa using e
      subst this; cases h
      exact List.mem_cons_self ..
    · exact List.mem_cons_of_mem _ (ih h)
theorem exK_mk {K : PySem.W.Frag} {mg : Str → Option Value} {l : List (String × Addr)} {cl : Cl} (hcl : ∀ n ∈ eNames, ∀ a, cl n = some a → (n, a) ∈ l) (hm : ∀ p ∈ l, mg (Str.ofString p.1) = some (.ref p.2)) (hf : ∀ p ∈ l, ExF K p.2)
    (ho : ∀ p ∈ l, p.1 ≠ "Clash" → PySem.W.excIn K p.2 [.type "ValueError", .type "Exception", .type "BaseException", .type "object"] "ValueError.__new__" = true)
    (hs : ∀ p ∈ l, ∀ q ∈ l, PySem.W.subIn K (.ref p.2) (.ref q.2) = some (subX p.1 q.1)) : ExK K mg cl := by
  refine ⟨fun n hn a h => hm _ (hcl n hn a h), fun n hn a h => (hf _ (hcl n hn a h)).b, fun n hn hc a h => ho _ (hcl n hn a h) hc, fun n hn a h n' hn' a' h' => ?_⟩
  have m1 := hcl n hn a h
  have m2 := hcl n' hn' a' h'
  have f2 := hf _ m2
  have s := hs _ m1 _ m2
  have kc : PySem.W.kitCls K (.ref a) (.ref a') = some (subX n n') := (kit_ref f2.is f2.ty).trans s
  refine ⟨?_, ?_⟩
  · show (if ((Value.ref a == Value.ref a') = true) then some true else PySem.W.kitCls K (.ref a) (.ref a')) = _
    by_cases e : a = a'
    · subst e
      rw [if_pos (by simp)]
      have s1 := hs _ m1 _ m1
      have : some (subX n n') = some (subX n n) := s.symm.trans s1
      rw [this, subX_self]
    · rw [if_neg (by intro z; exact e (by simpa using z))]; exact kc
  · show (if (PySem.W.subIn K (.ref a') (.type "BaseException") == some true) = true then PySem.W.kitCls K (.ref a) (.ref a') else none) = _
    rw [if_pos (by rw [f2.sb]; rfl)]; exact kc
section
variable {X : Cx} {pins : List (Addr × Obj)} {σ : L2.St} {H : Hp} {s : Shared} {a D : Addr} {d : Option Addr}
theorem xd_there {fs : List (Str × V)} (I : Inv X pins σ H s) (h : H D = some (.xd fs)) : ∃ o, s.heap.get? D = some o :=
  have ⟨_, names, _⟩ : ObjOk X.prog X.w H s.heap D (.xd fs) := I.hok D _ h
  (lookIn_ns names).imp fun _ q => q.1
theorem exo_obj (I : Inv X pins σ H s) (e : H a = some (exoH (.ref D) d a)) : ∃ oe : Obj, s.heap.get? a = some oe ∧ oe.cls = .ref D ∧ PySem.W.notCls oe ∧ oe.dict = d := by
  obtain ⟨oe, g, ⟨kind, dict⟩, vs, data⟩ := (show ObjOk X.prog X.w H s.heap a (.ext fun h => ∃ oe : Obj, h.get? a = some oe ∧ Zc (.ref D) d oe ∧ ∃ vs, oe.data = .fields vs) from I.hok a _ e).1
  exact ⟨oe, g, kind, by unfold PySem.W.notCls; rw [data] <;> rfl, dict⟩
theorem exo_inst (I : Inv X pins σ H s) (e : H a = some (exoH (.ref D) d a)) (hd : ∀ dd, d = some dd → ∃ fs, H dd = some (.xd fs)) : ∃ oe od, PySem.W.InstAt s.heap a oe D od := by
  obtain ⟨oe, g, kind, no, dict⟩ := exo_obj I e
  cases d with
  | none => exact ⟨oe, none, g, kind, no, by rw [dict]; trivial⟩
  | some dd =>
    obtain ⟨fs, hf⟩ := hd dd rfl
    obtain ⟨od, there⟩ := xd_there I hf
    exact ⟨oe, some od, g, kind, no, by rw [dict]; exact there⟩
/-- a field of an exception's own dict -/
theorem xd_field {fs : List (Str × V)} {f : Str} {v : V} (I : Inv X pins σ H s) (h : H D = some (.xd fs)) (l : fs.lookup f = some v) : ∃ o u, s.heap.get? D = some o ∧ PySem.W.lookIn f o = some (some u) ∧ RelV v u :=
  have ⟨m, names, vals⟩ : ObjOk X.prog X.w H s.heap D (.xd fs) := I.hok D _ h
  have ⟨o, g, reads⟩ := lookIn_ns names
  have ⟨u, e, r⟩ := RelO.some_of (v := v) (o := m f) (l ▸ vals f)
  ⟨o, u, g, by rw [reads, e], r⟩
/-- an exception, for the kit's rules of isinstance -/
theorem exo_kit (I : Inv X pins σ H s) (e : H a = some (exoH (.ref D) d a)) (hd : ∀ dd, d = some dd → ∃ fs, H dd = some (.xd fs)) (B : ExB X.K D) : ∃ P : Heap → Prop, P s.heap ∧ PySem.W.KitX X.K (.ref a) (.ref D) P :=
  have ⟨_, _, J⟩ := exo_inst I e hd
  ⟨_, J, PySem.W.kitx_exc B.is B.xf.ga B.xf.gg B.xf.exC B.cls B.gs B.tk B.mro⟩
/-- isinstance(e, c), e an exception -/
def rIsX (K : PySem.W.Frag) : List V → Hp → VK → Prop := fun xs H Q => ∃ (a D : Addr) (d : Option Addr) (c : V) (u : Value) (b : Bool), xs = [.ref a, c] ∧ ClsV c u ∧ H a = some (exoH (.ref D) d a) ∧ (∀ dd, d = some dd → ∃ fs, H dd = some (.xd fs)) ∧ ExB K D ∧ PySem.W.kitOne K (.ref D) u = some b ∧ Q (.bl b) H
def rIsXT (K : PySem.W.Frag) : List V → Hp → VK → Prop := fun xs H Q => ∃ (a D tp : Addr) (d : Option Addr) (cs : List V) (us : List Value) (b : Bool), xs = [.ref a, .ref tp] ∧ H tp = some (.tup cs) ∧ Paired ClsV cs us ∧ H a = some (exoH (.ref D) d a) ∧ (∀ dd, d = some dd → ∃ fs, H dd = some (.xd fs)) ∧ ExB K D ∧ PySem.W.kitAny K (.ref D) us = some b ∧ Q (.bl b) H
theorem call_isX : CallR X (.builtin "isinstance") (rIsX X.K) := by
  rintro pins s σ H _ us Q I r ⟨a, D, d, c, u, b, rfl, k, ea, hd, B, e, q⟩
  match us, r with
  | [_, _], .cons ra (.cons rc .nil) =>
    cases ra
    cases k.eq rc
    have ⟨P, J, Z⟩ := exo_kit I ea hd B
    exact PySem.W.kia_one Z I.kIn J e nofun fun tk => ⟨.bl b, H, I.kept (t' := tk) fun _ _ => id, rfl, q⟩
theorem call_isXT : CallR X (.builtin "isinstance") (rIsXT X.K) := by
  rintro pins s σ H _ us Q I r ⟨a, D, tp, d, cs, ws, b, rfl, hT, k, ea, hd, B, e, q⟩
  match us, r with
  | [_, _], .cons ra (.cons rt .nil) =>
    cases ra
    cases rt
    have ⟨_, its, rv, p⟩ : ObjOk X.prog X.w H s.heap tp (.tup cs) := I.hok tp _ hT
    cases ClsV.all k rv
    have ⟨P, J, Z⟩ := exo_kit I ea hd B
    obtain ⟨⟨kind, _, data, _⟩, g, z, n, z2⟩ := p
    cases (show kind = .type "tuple" from z)
    cases (show data = .seq ws.toArray n from z2)
    exact PySem.W.kia_tup Z I.kIn J g e nofun fun tk => ⟨.bl b, H, I.kept (t' := tk) fun _ _ => id, rfl, q⟩
end
/-! ### readings: isinstance -/
def isED (d : D) (ns : List String) (m : Mp) (k : K3) : Prop :=
  (∃ a C dc, d = .ref a ∧ m a = some (.exc C dc) ∧ (∀ dd, dc = some dd → ∃ fs, m dd = some (.xd fs)) ∧ k (.bl (ns.any (subX C))) m) ∨ (d = .non ∧ k (.bl false) m)
theorem mono_isED {d : D} {ns : List String} {m : Mp} {k k' : K3} (hk : ∀ d m, k d m → k' d m) (h : isED d ns m k) : isED d ns m k' := by
  rcases h with ⟨a, C, dc, h1, h2, h3, h4⟩ | ⟨h1, h2⟩
  · exact .inl ⟨a, C, dc, h1, h2, h3, hk _ _ h4⟩
  · exact .inr ⟨h1, hk _ _ h2⟩
def eIsE (A : TE3) (ns : List String) : TE3 := fun s m k x => A s m (fun d m1 => isED d ns m1 k) x
def tAs (vs : List V) : TA := fun _ H Q => Q vs H
/-- the classes that are written as arguments -/
structure QCs (X : Cx) (cl : Cl) (es : List Expr) (ns : List String) : Prop where
  run : ∃ as : List Addr, ns.map cl = as.map some ∧ (∀ n ∈ ns, n ∈ eNames) ∧ PA X es (tAs (as.map V.ref))
theorem cs_nil {X : Cx} {cl : Cl} : QCs X cl [] [] := ⟨⟨[], rfl, fun _ h => (by cases h), PA.imp pa_nil fun σ H Q h => h⟩⟩
theorem cs_cons {X : Cx} {cl : Cl} {n : String} {x : Str} {ns : List String} {es : List Expr} {p : Pos} (EK : ExK X.K X.mg cl) (hx : x = Str.ofString n) (hc : ∃ a, cl n = some a) (hn : n ∈ eNames) (hg : Gl X x) (hdb : (x == ("__debug__" : Str)) = false) (r : QCs X cl es ns)
    (hs : starEach (.Name x p :: es) X.env = (false, eval (.Name x p) X.env) :: starEach es X.env) : QCs X cl (.Name x p :: es) (n :: ns) := by
  obtain ⟨as, h1, h2, h3⟩ := r.run
  obtain ⟨a, e1⟩ := hc
  have e2 := EK.at_ n hn a e1
  refine ⟨⟨a :: as, by simp [e1, h1], fun m hm => ?_, PA.imp (pa_cons (pe_glob hg (hx ▸ e2) (show RelV (.ref a) (.ref a) from rfl) hdb) h3 hs) fun σ H Q h => h⟩⟩
  rcases List.mem_cons.mp hm with rfl | hm
  · exact hn
  · exact h2 m hm
section
variable {X : Cx} {cl : Cl} {W : WX} {a b c e o : Expr} {A B C : TE3} {rest es : List Expr} {R : TA3} {pos p p2 apos cpos : Pos} {n : String} {ns : List String}
theorem kit_none_ve {K : PySem.W.Frag} : PySem.W.kitOne K (.type "NoneType") (.type "ValueError") = some false := kit_ty (by decide +kernel)
/-- isinstance(e, C) -/
theorem q_isx1 {x : Str} (EK : ExK X.K X.mg cl) (hx : x = Str.ofString n) (hc : ∃ a, cl n = some a) (hn : n ∈ eNames) (hgx : Gl X x) (hdx : (x == ("__debug__" : Str)) = false) (hg : Gl X "isinstance") (hm : X.mg "isinstance" = none) (ha : QE X cl W a A)
    (h1 : starEach [a, .Name x p2] X.env = (false, eval a X.env) :: starEach [.Name x p2] X.env) (h2 : starEach [.Name x p2] X.env = (false, eval (.Name x p2) X.env) :: starEach [] X.env) (hpl : (backTo pos (starEach [.Name x p2] X.env)).any (·.1) = false) :
    QE X cl W (.Call (.Name "isinstance" p) [a, .Name x p2] [] pos) (eIsE A [n]) := by
  obtain ⟨ca, e1⟩ := hc
  have e2 := EK.at_ n hn ca e1
  refine ⟨fun s m k k' x x' hk hx q => ha.mono _ _ _ _ _ _ (fun d m1 z => mono_isED hk z) hx q, ?_⟩
  refine PE.imp (pe_callB (call_isX.or call_isi) hg hm (by decide +kernel) (pa_cons ha.run (pa_cons (pe_glob hgx (hx ▸ e2) (show RelV (.ref ca) (.ref ca) from rfl) hdx) pa_nil h2) h1) (by decide) (by decide) h1 hpl) fun σ H Q ⟨s, m, hs, hm, q⟩ => ?_
  refine ⟨s, m, hs, hm, ha.mono _ _ _ _ _ _ (fun d m1 z v H1 r hm1 ee => ?_) (fun _ _ z => z) q⟩
  show rIsX X.K [v, .ref ca] H1 Q ∨ rIsi X.K [v, .ref ca] H1 Q
  rcases z with ⟨ad, Cn, dc, rfl, q1, q2, q3⟩ | ⟨rfl, q1⟩
  · obtain ⟨Ca, hC, hc, hh⟩ := hm1.1 ad _ q1
    have r' : v = .ref ad := r
    refine .inl ⟨ad, Ca, dc, .ref ca, .ref ca, subX Cn n, by rw [r'], .own ca, hh, fun dd hd => ?_, EK.ok Cn hC Ca hc, (EK.sub Cn hC Ca hc n hn ca e1).1, ?_⟩
    · obtain ⟨fs, hf⟩ := q2 dd hd
      obtain ⟨fvs, hf', _⟩ := hm1.1 dd _ hf
      exact ⟨fvs, hf'⟩
    · have : ([n].any (subX Cn)) = subX Cn n := by simp
      rw [this] at q3
      exact q3 _ _ rfl hm1 ee
  · have r' : v = .non := r
    refine .inr ⟨.non, .ref ca, .type "NoneType", .ref ca, false, by rw [r'], .own ca, .base .non, (EK.ok n hn ca e1).non, q1 _ _ rfl hm1 ee⟩
theorem q_isxV (EK : ExK X.K X.mg cl) (hgx : Gl X "ValueError") (hmx : X.mg "ValueError" = none) (hg : Gl X "isinstance") (hm : X.mg "isinstance" = none) (ha : QE X cl W a A)
    (h1 : starEach [a, .Name "ValueError" p2] X.env = (false, eval a X.env) :: starEach [.Name "ValueError" p2] X.env) (h2 : starEach [.Name "ValueError" p2] X.env = (false, eval (.Name "ValueError" p2) X.env) :: starEach [] X.env) (hpl : (backTo pos (starEach [.Name "ValueError" p2] X.env)).any (·.1) = false) :
    QE X cl W (.Call (.Name "isinstance" p) [a, .Name "ValueError" p2] [] pos) (eIsE A ["ValueError"]) := by
  refine ⟨fun s m k k' x x' hk hx q => ha.mono _ _ _ _ _ _ (fun d m1 z => mono_isED hk z) hx q, ?_⟩
  refine PE.imp (pe_callB (call_isX.or call_isi) hg hm (by decide +kernel) (pa_cons ha.run (pa_cons (pe_bltn (v := V.ty "ValueError") hgx hmx PyProof.Rows.Boot.«ValueError» rfl (by decide) (by decide)) pa_nil h2) h1) (by decide) (by decide) h1 hpl) fun σ H Q ⟨s, m, hs, hm, q⟩ => ?_
  refine ⟨s, m, hs, hm, ha.mono _ _ _ _ _ _ (fun d m1 z v H1 r hm1 ee => ?_) (fun _ _ z => z) q⟩
  show rIsX X.K [v, .ty "ValueError"] H1 Q ∨ rIsi X.K [v, .ty "ValueError"] H1 Q
  rcases z with ⟨ad, Cn, dc, rfl, q1, q2, q3⟩ | ⟨rfl, q1⟩
  · obtain ⟨Ca, hC, hc, hh⟩ := hm1.1 ad _ q1
    have r' : v = .ref ad := r
    refine .inl ⟨ad, Ca, dc, .ty "ValueError", .type "ValueError", true, by rw [r'], .ty _, hh, fun dd hd => ?_, EK.ok Cn hC Ca hc, (EK.ok Cn hC Ca hc).ve, ?_⟩
    · obtain ⟨fs, hf⟩ := q2 dd hd
      obtain ⟨fvs, hf', _⟩ := hm1.1 dd _ hf
      exact ⟨fvs, hf'⟩
    · have : (["ValueError"].any (subX Cn)) = true := by simp [subX]
      rw [this] at q3
      exact q3 _ _ rfl hm1 ee
  · have r' : v = .non := r
    refine .inr ⟨.non, .ty "ValueError", .type "NoneType", .type "ValueError", false, by rw [r'], .ty _, .base .non, kit_none_ve, q1 _ _ rfl hm1 ee⟩
theorem kitAny_of {K : PySem.W.Frag} {t : Value} {f : String → Bool} {cl : Cl} : ∀ {ns : List String} {as : List Addr}, ns.map cl = as.map some → (∀ n ∈ ns, ∀ a, cl n = some a → PySem.W.kitOne K t (.ref a) = some (f n)) → PySem.W.kitAny K t (as.map Value.ref) = some (ns.any f)
  | [], [], _, _ => rfl
  | [], _ :: _, h, _ => by simp at h
  | _ :: _, [], h, _ => by simp at h
  | n :: ns, a :: as, h, hf => by
    simp only [List.map_cons, List.cons.injEq] at h
    have e := hf n (List.mem_cons_self ..) a h.1
    have ih := kitAny_of (f := f) h.2 fun m hm => hf m (List.mem_cons_of_mem _ hm)
    rw [List.map_cons, PySem.W.kitAny, e]
    cases q : f n with
    | true => simp [q]
    | false => simp only [List.any_cons, q, Bool.false_or]; exact ih
theorem paired_own : ∀ (as : List Addr), Paired ClsV (as.map V.ref) (as.map Value.ref)
  | [] => .nil
  | a :: as => .cons (.own a) (paired_own as)
/-- isinstance(e, (C1, C2, ..)) -/
theorem q_isxT {k0 : Nat} (EK : ExK X.K X.mg cl) (hg : Gl X "isinstance") (hm : X.mg "isinstance" = none) (ha : QE X cl W a A) (hc : QCs X cl es ns) (hl : ns.length ≤ 1000)
    (h1 : starEach [a, .Tuple es k0 p2] X.env = (false, eval a X.env) :: starEach [.Tuple es k0 p2] X.env) (h2 : starEach [.Tuple es k0 p2] X.env = (false, eval (.Tuple es k0 p2) X.env) :: starEach [] X.env) (hpl : (backTo pos (starEach [.Tuple es k0 p2] X.env)).any (·.1) = false) :
    QE X cl W (.Call (.Name "isinstance" p) [a, .Tuple es k0 p2] [] pos) (eIsE A ns) := by
  obtain ⟨as, c1, c2, c3⟩ := hc.run
  refine ⟨fun s m k k' x x' hk hx q => ha.mono _ _ _ _ _ _ (fun d m1 z => mono_isED hk z) hx q, ?_⟩
  have hlen : ns.length = as.length := by have := congrArg List.length c1; simpa using this
  refine PE.imp (pe_callB (call_isXT.or call_isiT) hg hm (by decide +kernel) (pa_cons ha.run (pa_cons (pe_tup c3) pa_nil h2) h1) (by decide) (by decide) h1 hpl) fun σ H Q ⟨s, m, hs, hm, q⟩ => ?_
  refine ⟨s, m, hs, hm, ha.mono _ _ _ _ _ _ (fun d m1 z v H1 r hm1 ee => ?_) (fun _ _ z => z) q⟩
  show (as.map V.ref).length ≤ sizeLine ∧ ∀ p, H1 p = none → (rIsXT X.K [v, .ref p] (upd H1 p (.tup (as.map V.ref))) Q ∨ rIsiT X.K [v, .ref p] (upd H1 p (.tup (as.map V.ref))) Q)
  refine ⟨?_, fun tp htp => ?_⟩
  · rw [List.length_map, ← hlen]
    exact Nat.le_trans hl (by decide)
  have e2 := Ext.new (o := .tup (as.map V.ref)) htp
  have hm2 := hm1.hid (u := .tup (as.map V.ref)) htp
  rcases z with ⟨ad, Cn, dc, rfl, q1, q2, q3⟩ | ⟨rfl, q1⟩
  · obtain ⟨Ca, hC, hc, hh⟩ := hm2.1 ad _ q1
    have r' : v = .ref ad := r
    refine .inl ⟨ad, Ca, tp, dc, _, _, ns.any (subX Cn), by rw [r'], upd_same, paired_own as, hh, fun dd hd => ?_, EK.ok Cn hC Ca hc, kitAny_of c1 (fun n hn a ha => (EK.sub Cn hC Ca hc n (c2 n hn) a ha).1), ?_⟩
    · obtain ⟨fs, hf⟩ := q2 dd hd
      obtain ⟨fvs, hf', _⟩ := hm2.1 dd _ hf
      exact ⟨fvs, hf'⟩
    · exact q3 _ _ rfl hm2 (ee.trans e2)
  · have r' : v = .non := r
    have : ns.any (fun _ => false) = false := by simp
    refine .inr ⟨.non, tp, _, .type "NoneType", _, false, by rw [r'], upd_same, paired_own as, .base .non, this ▸ kitAny_of c1 (fun n hn a ha => (EK.ok n (c2 n hn) a ha).non), q1 _ _ rfl hm2 (ee.trans e2)⟩
end
end PV

/-! raise, try. -/
namespace PV
open PySem L2 PyProof.Rows
/-- an object that stands untracked, newer than the ground, is tracked from now on -/
theorem inv_adopt {X : Cx} {pins : List (Addr × Obj)} {σ : L2.St} {H : Hp} {s : Shared} {D : Addr} {o : HO} (I : Inv X pins σ H s) (n0 : H D = none) (nL : D ≠ X.env.locals) (nC : ∀ x c, X.env.cells.lookup x = some c → c ≠ D) (nP : ∀ p ∈ X.pn ++ pins, p.1 ≠ D) (nD : X.s_0.heap.get? D = none) (new : ObjOk X.prog X.w (upd H D o) s.heap D o) : Inv X pins σ (upd H D o) s := by
  have other : ∀ {b}, b ≠ D → upd H D o b = H b := fun h => upd_ne h
  have tracked : ∀ {b : Addr} {v : HO}, H b = some v → b ≠ D := fun e z => by rw [z, n0] at e; cases e
  have B := I.base
  refine { ok := I.ok, os := I.os, bare := I.bare, loc := I.loc, cell := I.cell, len := I.len, free := (other (Ne.symm nL)).trans I.free, freeC := fun x c e => (other (nC x c e)).trans (I.freeC x c e), base := ?b, pin := fun p m => ?p, hok := fun b v e => ?h }
  case b =>
    exact { keep := B.keep, slot := B.slot, there := B.there, free := fun b v e n x => (other fun z => by rw [z, nD] at e; cases e).trans (B.free b v e n x), tups := fun b xs e => (other (tracked (B.tups b xs e))).trans (B.tups b xs e),
            frzs := fun b v u e => (other (tracked (B.frzs b v u e))).trans (B.frzs b v u e), tbls := fun b ps e => (B.tbls b ps e).imp fun more q => (other (tracked q)).trans q }
  case p =>
    obtain ⟨q1, q2, q3⟩ := I.pin p m
    exact ⟨q1, (other (nP p m)).trans q2, q3⟩
  case h =>
    by_cases z : b = D
    · subst z
      rw [upd_same] at e
      cases e; exact new
    · rw [other z] at e
      exact (I.hok b v e).stay (fun _ _ _ r => r) (fun c r => (other (tracked r)).trans r) fun c xs r => (other (tracked r)).trans r
/-- an exception a that has landed in the def of X: B the ground beneath it, sI the state without it, h the heap with it -/
structure Landed (X : Cx) (pins : List (Addr × Obj)) (σ : L2.St) (H : Hp) (a : Addr) (cls : Value) (d : Option Addr) (B : Heap) (sI : Shared) (s : Shared) : Prop where
  inv : Inv X pins σ H sI
  ground : ∀ b o, sI.heap.get? b = some o → b ∉ frs X.stack → B.get? b = some o
  slots : sI.heap.UpToSlots s.heap
  fly : HandSPX.FlyingZ B X.stack a (Zc cls d) s.heap
  free : H a = none
  os : s.os = sI.os
  bare : AllBare s.gens
section
variable {X : Cx} {pins : List (Addr × Obj)} {σ : L2.St} {H : Hp} {a : Addr} {cls : Value} {d : Option Addr} {B : Heap} {sI s : Shared}
/-- the state with it -/
theorem Landed.state (L : Landed X pins σ H a cls d B sI s) : Inv X pins σ H s := L.inv.landed L.ground L.fly.1 L.slots L.os L.bare
/-- its object -/
theorem Landed.obj (L : Landed X pins σ H a cls d B sI s) : ∃ oe vs, s.heap.get? a = some oe ∧ Zc cls d oe ∧ oe.data = .fields vs := L.fly.there
/-- it is no frame's -/
theorem Landed.noFrame (L : Landed X pins σ H a cls d B sI s) : a ∉ frs X.stack := fun z => by
  obtain ⟨oe, vs, g, -, e⟩ := L.obj
  obtain ⟨-, o, g', n⟩ := L.fly.2.2.1.mem z
  rw [g] at g'
  exact n vs ((congrArg Obj.data (Option.some.inj g')).symm.trans e)
/-- it is new -/
theorem Landed.notThere (L : Landed X pins σ H a cls d B sI s) : sI.heap.get? a = none := by
  cases q : sI.heap.get? a with
  | none => rfl
  | some o => exact absurd ((L.ground a o q L.noFrame).symm.trans L.fly.2.1) (fun z => nomatch z)
theorem Landed.notAtFirst (L : Landed X pins σ H a cls d B sI s) (hx : X.ex = []) : X.s_0.heap.get? a = none := by
  cases q : X.s_0.heap.get? a with
  | none => rfl
  | some o =>
    obtain ⟨o', q'⟩ := L.inv.base.there a o q (by rw [hx]; exact fun z => nomatch z)
    exact absurd (q'.symm.trans L.notThere) (fun z => nomatch z)
theorem Landed.noPin (L : Landed X pins σ H a cls d B sI s) : ∀ p ∈ X.pn ++ pins, p.1 ≠ a := fun p m z => by
  have q := (L.inv.pin p m).1
  rw [z, L.notThere] at q
  exact nomatch q
/-- more objects beside it -/
theorem Landed.more (L : Landed X pins σ H a cls d B sI s) {h : Heap} (k : ∀ b o, s.heap.get? b = some o → h.get? b = some o) : Landed X pins σ H a cls d B sI { s with heap := h } := by
  obtain ⟨st, na, ff, oe, vs, T, oT, ts, q1, q2, q3, q4, q5, q6, q7, q8⟩ := L.fly
  exact { L with slots := L.slots.trans (Heap.UpToSlots.of_keeps k), fly := ⟨fun b o e => k b o (st b o e), na, ff.of_keeps (fun b o e _ => ⟨o, k b o e, rfl⟩), oe, vs, T, oT, ts, k _ _ q1, q2, q3, q4, q5, q6, k _ _ q7, q8⟩ }
end
section
variable {X : Cx} {pins : List (Addr × Obj)} {σ : L2.St} {H : Hp} {a : Addr} {cls : Value} {d : Option Addr} {B : Heap} {sI s : Shared}
/-- into a suite's context and out of it: the def's own pins are the suite's -/
theorem suite_in (I : Inv X pins σ H s) : Inv (X.suite a (X.pn ++ pins)) [] σ H s := by
  have p := I.pin
  exact { ok := I.ok.suite a _, os := I.os, bare := I.bare, base := I.base, loc := I.loc, cell := I.cell, free := I.free, freeC := I.freeC, hok := I.hok, len := I.len, pin := fun q m => p q (by simpa using m) }
theorem suite_out {σ' : L2.St} {H' : Hp} {s' : Shared} (ok : X.Ok) (I : Inv (X.suite a (X.pn ++ pins)) [] σ' H' s') : Inv X pins σ' H' s' := by
  have p := I.pin
  exact { ok := ok, os := I.os, bare := I.bare, base := I.base, loc := I.loc, cell := I.cell, free := I.free, freeC := I.freeC, hok := I.hok, len := I.len, pin := fun q m => p q (by simpa using m) }
/-- the landed exception, tracked in its suite -/
theorem Landed.tracked (L : Landed X pins σ H a cls d B sI s) (hst : X.stack = X.env :: X.outer) (hef : X.env.frame = some X.env.locals) (hx : X.ex = []) : Inv (X.suite a (X.pn ++ pins)) [] σ (upd H a (exoH cls d a)) s := by
  have I := L.state
  obtain ⟨oe, vs, g, z, e⟩ := L.obj
  have out : ∀ b ∈ frs X.stack, b ≠ a := fun b m q => L.noFrame (q ▸ m)
  have loc : X.env.locals ∈ frs X.stack := by rw [hst]; exact List.mem_filterMap.mpr ⟨X.env, List.mem_cons_self, hef⟩
  refine inv_adopt (suite_in I) L.free (out _ loc).symm (fun y c q w => ?_) (fun p m => L.noPin p (by simpa using m)) (L.notAtFirst hx) ⟨⟨oe, g, z, vs, e⟩, ⟨oe, g⟩, fun h1 h2 q k => ?_⟩
  · obtain ⟨u, ob, q1, q2⟩ := I.cell y c q
    rw [w, g] at q1
    have q1 := Option.some.inj q1
    rw [← q1, e] at q2
    exact nomatch q2
  · obtain ⟨o, q1, q2⟩ := q
    exact ⟨o, k _ q1, q2⟩
end
/-- a row of clauses: where the wish w stands, a landed exception is handled as D asks, or goes on -/
def Clauses (X : Cx) (hs : List ExceptHandler) (w : Ends → WX) : Prop := ∀ (pins : List (Addr × Obj)) (σ : L2.St) (H : Hp) (a : Addr) (cls : Value) (d : Option Addr) (B : Heap) (sI s : Shared) (D : Ends),
  Landed X pins σ H a cls d B sI s → w D cls d σ H → wpAny (model X.prog X.w) X.A (handleBy (.ref a) X.env hs) (SP X pins D) X.xe s
section
variable {X : Cx} {W : WX}
/-- no clause is left: it flies on -/
theorem clauses_none (hst : X.stack = X.env :: X.outer) (hef : X.env.frame = some X.env.locals) (tk : Takes X W) : Clauses X [] fun _ => W := by
  intro pins σ H a cls d B sI s D L w
  refine wpAny_handleBy_nil ?_
  obtain ⟨st, na, ff, oe, vs, T, oT, ts, q1, q2, q3, q4, q5, q6, q7, q8⟩ := id L.fly
  have go : wpAny (model X.prog X.w) X.A (setFlight (.ref a) X.env.frame) (fun _ s' => wpAny (model X.prog X.w) X.A (throw (.ref a) : Sem Flow) (SP X pins D) X.xe s') X.xe s := by
    rw [hef]
    refine HandSPX.setFlight_upZ L.fly fun h held up => wpAny_throw (tk _ _ ?_)
    exact ⟨a, B, sI, pins, σ, H, cls, d, rfl, L.inv, L.ground, L.slots.trans up, .inr (.inr held), L.free, L.os, L.bare, w⟩
  unfold PySem.passOn
  refine wpAny_bind (wpAny_field q1 q3 q4 ?_)
  rw [if_neg (show ¬ ((Value.ref T == .none) = true) by simp)]
  first | exact wpAny_bind go | exact wpAny_bind (wpAny_pure (wpAny_bind go))
/-- a class's name, read where the exception is handled -/
theorem name_read {pins : List (Addr × Obj)} {σ : L2.St} {H : Hp} {a : Addr} {cls : Value} {d : Option Addr} {B : Heap} {sI s : Shared} {n : Str} {c : Value} {p : Pos} {Q E : Value → Shared → Prop} (L : Landed X pins σ H a cls d B sI s) (hst : X.stack = X.env :: X.outer) (hef : X.env.frame = some X.env.locals) (hx : X.ex = [])
    (hn : Names X n c) (q : Q c s) : wpAny (model X.prog X.w) (X.A.mark (some (.ref a))) (eval (.Name n p) X.env) Q E s := by
  have J := L.tracked hst hef hx
  obtain ⟨g, nd, m | ⟨m, v, nn⟩⟩ := hn
  · exact ld_glob J g m q nd
  · exact ld_blt J g m v q nn nd
/-- how a suite's end is the def's -/
theorem suite_end {pins : List (Addr × Obj)} {a : Addr} {D : Ends} {f : Flow} {s : Shared} (ok : X.Ok) (h : SP (X.suite a (X.pn ++ pins)) [] D f s) : SP X pins D f s := by
  cases f with
  | ret u => obtain ⟨v, σ, H, J, r, q⟩ := h; exact ⟨v, σ, H, suite_out ok J, r, q⟩
  | next => obtain ⟨σ, H, J, q⟩ := h; exact ⟨σ, H, suite_out ok J, q⟩
  | brk => obtain ⟨σ, H, J, q⟩ := h; exact ⟨σ, H, suite_out ok J, q⟩
  | cont => obtain ⟨σ, H, J, q⟩ := h; exact ⟨σ, H, suite_out ok J, q⟩
/-- except C: -/
theorem clauses_class {n : Str} {c : Value} {ts : Addr → Value → Option Addr → TS} {b0 : Stmt} {suite : List Stmt} {np hp : Pos} {rest : List ExceptHandler} {w : Ends → WX} (hst : X.stack = X.env :: X.outer) (hef : X.env.frame = some X.env.locals) (hx : X.ex = []) (hn : Names X n c)
    (hsu : ∀ (a : Addr) (cls : Value) (d : Option Addr) (pn : List (Addr × Obj)), PSs (X.suite a pn) (b0 :: suite) (ts a cls d)) (r : Clauses X rest w) :
    Clauses X (.ExceptHandler (some (.Name n np)) none (b0 :: suite) hp :: rest) fun D cls d σ H => ∃ b, PySem.W.exmOne X.K cls c = some b ∧ (b = true → ∀ a, H a = none → ts a cls d D σ (upd H a (exoH cls d a))) ∧ (b = false → w D cls d σ H) := by
  rintro pins σ H a cls d B sI s D L ⟨b, eb, yes, no⟩
  obtain ⟨oe, vs, g, z, e⟩ := L.obj
  have type : PySem.W.Looks (model X.prog X.w) s.heap (typeOf (.ref a)) cls := fun A Q E s' k q => wpAny_typeOf_ref (k _ _ g) (by rw [z.1]; exact q)
  refine wpAny_handleBy_cons (codeAny_handlers_test (name_read L hst hef hx hn ((PySem.W.exm_one (M := model X.prog X.w) L.state.kIn type eb).here ?_))) (fun q => nomatch q)
  cases b with
  | false => exact r pins σ H a cls d B sI s D L (no rfl)
  | true =>
    refine codeAny_handlers_suite (HandSPX.lands_againZ L.fly fun h fl up => ?_)
    have L2 : Landed X pins σ H a cls d B sI { s with heap := h } := { L with slots := L.slots.trans up, fly := fl }
    refine wpAny_mono ((hsu a cls d (X.pn ++ pins)).run [] _ _ _ D (L2.tracked hst hef hx) (yes rfl a L.free)) (fun f s' q => ?_) fun _ _ q => q.elim
    have q := suite_end L.inv.ok q
    cases f <;> exact q
end
/-- ends where the name in slot i is let go -/
def endI (i : Nat) (D : Ends) : Ends := { nx := fun σ H => D.nx (σ.set i none) H, rt := D.rt, bk := fun σ H => D.bk (σ.set i none) H, ct := fun σ H => D.ct (σ.set i none) H }
section
variable {X : Cx} {W : WX}
/-- except C as n: -/
theorem clauses_as {n y : Str} {i : Nat} {c : Value} {ts : Addr → Value → Option Addr → TS} {b0 : Stmt} {suite : List Stmt} {np hp : Pos} {rest : List ExceptHandler} {w : Ends → WX} (hst : X.stack = X.env :: X.outer) (hef : X.env.frame = some X.env.locals) (hx : X.ex = []) (hN : X.N.Nodup) (hi : X.N[i]? = some y) (hy : X.env.kindOf y = some .local) (hn : Names X n c)
    (hsu : ∀ (a : Addr) (cls : Value) (d : Option Addr) (pn : List (Addr × Obj)), PSs (X.suite a pn) (b0 :: suite) (ts a cls d)) (r : Clauses X rest w) :
    Clauses X (.ExceptHandler (some (.Name n np)) (some y) (b0 :: suite) hp :: rest) fun D cls d σ H => ∃ b, PySem.W.exmOne X.K cls c = some b ∧ (b = true → ∀ a, H a = none → ts a cls d (endI i D) (σ.set i (some (.ref a))) (upd H a (exoH cls d a))) ∧ (b = false → w D cls d σ H) := by
  rintro pins σ H a cls d B sI s D L ⟨b, eb, yes, no⟩
  obtain ⟨oe, vs, g, z, e⟩ := L.obj
  have type : PySem.W.Looks (model X.prog X.w) s.heap (typeOf (.ref a)) cls := fun A Q E s' k q => wpAny_typeOf_ref (k _ _ g) (by rw [z.1]; exact q)
  refine wpAny_handleBy_cons (codeAny_handlers_test (name_read L hst hef hx hn ((PySem.W.exm_one (M := model X.prog X.w) L.state.kIn type eb).here ?_))) (fun q => nomatch q)
  cases b with
  | false => exact r pins σ H a cls d B sI s D L (no rfl)
  | true =>
    refine codeAny_handlers_suite_as (HandSPX.lands_againZ L.fly fun h fl up => ?_)
    have Ln : Landed X pins σ H a cls d B sI { s with heap := h } := { L with slots := L.slots.trans up, fly := fl }
    refine store_ok (X := X.suite a (X.pn ++ pins)) (v := V.ref a) (Ln.tracked hst hef hx) hN hi (.inl hy) rfl (fun s5 J5 => ?_) (.inr hy)
    refine wpAny_mono ((hsu a cls d (X.pn ++ pins)).run [] _ _ _ (endI i D) J5 (yes rfl a L.free)) (fun f s' q => ?_) fun _ _ q => q.elim
    have gone : ∀ {σ' : L2.St} {H' : Hp} {R : Shared → Prop}, Inv X pins σ' H' s' → (∀ s7, Inv X pins (σ'.set i none) H' s7 → R s7) → wpAny (model X.prog X.w) X.A (do bindName X.env y .none; unbindBehindTheSuite X.env y hp) (fun _ s7 => R s7) X.xe s' := fun J q => gone_ok J hN hi hy q
    have q := suite_end L.inv.ok q
    cases f with
    | ret u => obtain ⟨v, σ', H', J, rv, k⟩ := q; exact gone J fun s7 J7 => ⟨v, _, H', J7, rv, k⟩
    | next => obtain ⟨σ', H', J, k⟩ := q; exact gone J fun s7 J7 => ⟨_, H', J7, k⟩
    | brk => obtain ⟨σ', H', J, k⟩ := q; exact gone J fun s7 J7 => ⟨_, H', J7, k⟩
    | cont => obtain ⟨σ', H', J, k⟩ := q; exact gone J fun s7 J7 => ⟨_, H', J7, k⟩
/-- except (C1, C2): -/
theorem clauses_two {n1 n2 : Str} {c1 c2 : Value} {ts : Addr → Value → Option Addr → TS} {b0 : Stmt} {suite : List Stmt} {p1 p2 tp hp : Pos} {kk : Nat} {rest : List ExceptHandler} {w : Ends → WX} (hst : X.stack = X.env :: X.outer) (hef : X.env.frame = some X.env.locals) (hx : X.ex = []) (h1 : Names X n1 c1) (h2 : Names X n2 c2)
    (hsu : ∀ (a : Addr) (cls : Value) (d : Option Addr) (pn : List (Addr × Obj)), PSs (X.suite a pn) (b0 :: suite) (ts a cls d)) (r : Clauses X rest w) :
    Clauses X (.ExceptHandler (some (.Tuple [.Name n1 p1, .Name n2 p2] kk tp)) none (b0 :: suite) hp :: rest) fun D cls d σ H => ∃ b, PySem.W.exmAny X.K cls [c1, c2] = some b ∧ (b = true → ∀ a, H a = none → ts a cls d D σ (upd H a (exoH cls d a))) ∧ (b = false → w D cls d σ H) := by
  rintro pins σ H a cls d B sI s D L ⟨b, eb, yes, no⟩
  obtain ⟨oe, vs, g, z, e⟩ := L.obj
  have type : PySem.W.Looks (model X.prog X.w) s.heap (typeOf (.ref a)) cls := fun A Q E s' k q => wpAny_typeOf_ref (k _ _ g) (by rw [z.1]; exact q)
  refine wpAny_handleBy_cons (codeAny_handlers_test (wpAny_Tuple (wpAny_items_cons (name_read L hst hef hx h1 (wpAny_items_cons (name_read L hst hef hx h2 (wpAny_items_nil ⟨by size_fits, ?_⟩))))))) (fun q => nomatch q)
  have up : ∀ b o, s.heap.get? b = some o → (s.heap.push { cls := .type "tuple", data := .seq [c1, c2].toArray }).get? b = some o := fun _ _ => Heap.get?_push_of_some _
  have L5 := L.more up
  refine (PySem.W.exm_tup2 (M := model X.prog X.w) L5.state.kIn (type.keeps up) (Heap.get?_push_size s.heap rfl) eb).here ?_
  generalize s.heap.push { cls := .type "tuple", data := .seq [c1, c2].toArray } = h5 at *
  cases b with
  | false => exact r pins σ H a cls d B sI _ D L5 (no rfl)
  | true =>
    refine codeAny_handlers_suite (HandSPX.lands_againZ L5.fly fun h fl up6 => ?_)
    have L6 : Landed X pins σ H a cls d B sI { s with heap := h } := { L with slots := L5.slots.trans up6, fly := fl }
    refine wpAny_mono ((hsu a cls d (X.pn ++ pins)).run [] _ _ _ D (L6.tracked hst hef hx) (yes rfl a L.free)) (fun f s' q => ?_) fun _ _ q => q.elim
    have q := suite_end L.inv.ok q
    cases f <;> exact q
end
/-- try: the body under the clauses' wish -/
theorem try_clauses {X : Cx} {body : List Stmt} {h0 : ExceptHandler} {hs : List ExceptHandler} {pos : Pos} {tb : WX → TS} {w : Ends → WX} (hst : X.stack = X.env :: X.outer) (hef : X.env.frame = some X.env.locals)
    (hb : ∀ (W : WX) (pn : List (Addr × Obj)) (xe : Value → Shared → Prop), Takes (X.tr pn xe) W → PassesOwn (model X.prog X.w) X.A X.env xe → PSs (X.tr pn xe) body (tb W)) (hc : Clauses X (h0 :: hs) w) : PS X (.Try body (h0 :: hs) [] [] pos) fun D σ H => tb (w D) D σ H := by
  constructor
  intro pins s σ H D I wish
  refine wpAny_Try_except (wpAny_mono ((hb (w D) (X.pn ++ pins) _ ?air PassesOwn.looking).run [] s σ H D (I.toTry _) wish) (fun f s1 q => ?_) fun _ _ q => q)
  case air =>
    rintro u s1 ⟨a, B, sI, pb, σ1, H1, cls, d, rfl, J, nb, up, sky, na, os, ag, wx⟩
    have fr : X.A.frames = some (X.env :: X.outer) := I.ok.frames.trans (congrArg some hst)
    refine Sky.land Zc.steady fr hef (hst ▸ sky) fun h fl up2 => ?_
    exact hc pins σ1 H1 a cls d B sI { s1 with heap := h } D ⟨J.ofTry I.ok, nb, up.trans up2, hst ▸ fl, na, os, ag⟩ wx
  cases f with
  | next => obtain ⟨σ1, H1, J, q⟩ := q; exact wpAny_execs_nil ⟨σ1, H1, J.ofTry I.ok, q⟩
  | ret u => obtain ⟨v, σ1, H1, J, r, q⟩ := q; exact ⟨v, σ1, H1, J.ofTry I.ok, r, q⟩
  | brk => obtain ⟨σ1, H1, J, q⟩ := q; exact ⟨σ1, H1, J.ofTry I.ok, q⟩
  | cont => obtain ⟨σ1, H1, J, q⟩ := q; exact ⟨σ1, H1, J.ofTry I.ok, q⟩
/-! ### readings -/
def endN (sl : Option Nat) (D : N3) : N3 := match sl with
  | none => { D with ex := fun _ => noX }
  | some i => { nx := fun s m => D.nx (s.set i none) m, rt := D.rt, bk := fun s m => D.bk (s.set i none) m, ct := fun s m => D.ct (s.set i none) m, ex := fun _ => noX }
def setN (sl : Option Nat) (s : S3) (a : Addr) : S3 := match sl with
  | none => s
  | some i => s.set i (some (.ref a))
/-- a clause: its class, its name's slot, its suite -/
abbrev Hd3 := String × Option Nat × TS3
def dsp : List Hd3 → N3 → S3 → X3
  | [], D, s, x, m => D.ex s x m
  | h :: r, D, s, x, m => if subX x.cls h.1 = true then ∀ a, m a = none → h.2.2 (endN h.2.1 D) (setN h.2.1 s a) (mset m a (.exc x.cls x.dct)) else dsp r D s x m
def sTry (B : TS3) (hs : List Hd3) : TS3 := fun D s m => B { D with ex := dsp hs D } s m
inductive QH (X : Cx) (cl : Cl) : List ExceptHandler → List Hd3 → Prop
  | nil : QH X cl [] []
  | cons {n : String} {x : Str} {S : TS3} {b₀ : Stmt} {suite : List Stmt} {np pos' : Pos} {hds : List ExceptHandler} {l : List Hd3} (hn : n ∈ eNames) (hcl : ∃ a, cl n = some a) (hx : x = Str.ofString n) (hg : Gl X x) (hdb : (x == ("__debug__" : Str)) = false)
      (hsu : ∀ (a : Addr) (pn : List (Addr × Obj)), QB (X.suite a pn) cl W0 (b₀ :: suite) S) (r : QH X cl hds l) :
      QH X cl (.ExceptHandler (some (.Name x np)) none (b₀ :: suite) pos' :: hds) ((n, none, S) :: l)
  | consAs {n : String} {x y : Str} {i : Nat} {S : TS3} {b₀ : Stmt} {suite : List Stmt} {np pos' : Pos} {hds : List ExceptHandler} {l : List Hd3} (hn : n ∈ eNames) (hcl : ∃ a, cl n = some a) (hx : x = Str.ofString n) (hg : Gl X x) (hdb : (x == ("__debug__" : Str)) = false)
      (hi : X.N[i]? = some y) (hln : X.env.kindOf y = some .local) (hsu : ∀ (a : Addr) (pn : List (Addr × Obj)), QB (X.suite a pn) cl W0 (b₀ :: suite) S) (r : QH X cl hds l) :
      QH X cl (.ExceptHandler (some (.Name x np)) (some y) (b₀ :: suite) pos' :: hds) ((n, some i, S) :: l)
  | consTwo {n1 n2 : String} {x1 x2 : Str} {S : TS3} {b₀ : Stmt} {suite : List Stmt} {p1 p2 tp pos' : Pos} {kk : Nat} {hds : List ExceptHandler} {l : List Hd3} (hn1 : n1 ∈ eNames) (hc1 : ∃ a, cl n1 = some a) (hx1 : x1 = Str.ofString n1) (hg1 : Gl X x1) (hd1 : (x1 == ("__debug__" : Str)) = false)
      (hn2 : n2 ∈ eNames) (hc2 : ∃ a, cl n2 = some a) (hx2 : x2 = Str.ofString n2) (hg2 : Gl X x2) (hd2 : (x2 == ("__debug__" : Str)) = false) (hsu : ∀ (a : Addr) (pn : List (Addr × Obj)), QB (X.suite a pn) cl W0 (b₀ :: suite) S) (r : QH X cl hds l) :
      QH X cl (.ExceptHandler (some (.Tuple [.Name x1 p1, .Name x2 p2] kk tp)) none (b₀ :: suite) pos' :: hds) ((n1, none, S) :: (n2, none, S) :: l)
section
variable {X : Cx} {cl : Cl} {W : WX} {K : PySem.W.Frag}
def endS (sl : Option Nat) (D : Ends) : Ends := match sl with
  | none => D
  | some i => endI i D
theorem endN_le {sl : Option Nat} {H H1 : Hp} (e : Ext H H1) {D : Ends} : N3.Le (endN sl (cN K cl W H D)) (cN K cl W0 H1 (endS sl D)) := by
  cases sl with
  | none => exact ⟨fun _ _ h => cS_ext e h, fun _ _ h => cE_ext e h, fun _ _ h => cS_ext e h, fun _ _ h => cS_ext e h, fun _ _ _ h => h.elim⟩
  | some i => exact ⟨fun s m h σ H3 r a e3 => h _ H3 (r.wipe i) a (e.trans e3), fun _ _ h => cE_ext e h, fun s m h σ H3 r a e3 => h _ H3 (r.wipe i) a (e.trans e3), fun s m h σ H3 r a e3 => h _ H3 (r.wipe i) a (e.trans e3), fun _ _ _ h => h.elim⟩
theorem endN_mono {sl : Option Nat} {D D' : N3} (l : N3.Le D D') : N3.Le (endN sl D) (endN sl D') := by
  cases sl with
  | none => exact ⟨l.nx, l.rt, l.bk, l.ct, fun _ _ _ h => h⟩
  | some i => exact ⟨fun s m h => l.nx _ _ h, l.rt, fun s m h => l.bk _ _ h, fun s m h => l.ct _ _ h, fun _ _ _ h => h⟩
/-- what a reading of the clauses gives the wish -/
def Meets (X : Cx) (cl : Cl) (W : WX) (l3 : List Hd3) (w : Ends → WX) : Prop := ∀ (D : Ends) (H : Hp) (s : S3) (x : Xc) (m : Mp), dsp l3 (cN X.K cl W H D) s x m → ∀ σ c dd H', RepS X.K H' s σ → RepX X.K cl H' x c dd → Ab X.K cl H' m → Ext H H' → w D c dd σ H'
theorem dsp_c {n : String} {sl : Option Nat} {S : TS3} {r : List Hd3} {D : N3} {s : S3} {x : Xc} {m : Mp} (h : dsp ((n, sl, S) :: r) D s x m) :
    (subX x.cls n = true → ∀ a, m a = none → S (endN sl D) (setN sl s a) (mset m a (.exc x.cls x.dct))) ∧ (subX x.cls n = false → dsp r D s x m) := by
  have h : if subX x.cls n = true then ∀ a, m a = none → S (endN sl D) (setN sl s a) (mset m a (.exc x.cls x.dct)) else dsp r D s x m := h
  constructor <;> intro q
  · rwa [if_pos q] at h
  · rwa [if_neg (by rw [q]; decide)] at h
theorem c_dsp {n : String} {sl : Option Nat} {S : TS3} {r : List Hd3} {D : N3} {s : S3} {x : Xc} {m : Mp} (h1 : subX x.cls n = true → ∀ a, m a = none → S (endN sl D) (setN sl s a) (mset m a (.exc x.cls x.dct))) (h2 : subX x.cls n = false → dsp r D s x m) : dsp ((n, sl, S) :: r) D s x m := by
  show if subX x.cls n = true then _ else _
  cases q : subX x.cls n with
  | true => exact h1 q
  | false => exact h2 q
/-- the suite's reading, where its class is met -/
theorem meets_suite {sl : Option Nat} {S : TS3} {D : Ends} {H H' : Hp} {s : S3} {x : Xc} {m : Mp} {σ : L2.St} {c : Value} {dd : Option Addr} (hS : MonoS S) (hs : RepS X.K H' s σ) (rx : RepX X.K cl H' x c dd) (hm : Ab X.K cl H' m) (e : Ext H H') {a : Addr} (ha : H' a = none)
    (h : ∀ a, m a = none → S (endN sl (cN X.K cl W H D)) (setN sl s a) (mset m a (.exc x.cls x.dct))) : upS X.K cl W0 S (endS sl D) (match sl with | none => σ | some i => σ.set i (some (.ref a))) (upd H' a (exoH c dd a)) := by
  obtain ⟨C, hC, hc, rfl, rfl⟩ := id rx
  have en := Ext.new (o := exoH (.ref C) x.dct a) ha
  have hm2 : Ab X.K cl (upd H' a (exoH (.ref C) x.dct a)) (mset m a (.exc x.cls x.dct)) := hm.new ha ⟨C, hC, hc, upd_same⟩
  refine ⟨setN sl s a, _, ?_, hm2, hS _ _ _ _ (endN_le (e.trans en)) (h a (hm.free ha))⟩
  cases sl with
  | none => exact hs.mono en
  | some i => exact (hs.mono en).set (show Rep X.K _ (.ref a) (.ref a) from rfl) i
theorem qh_up (EK : ExK X.K X.mg cl) (hst : X.stack = X.env :: X.outer) (hef : X.env.frame = some X.env.locals) (hx : X.ex = []) (hN : X.N.Nodup) (tk : Takes X W) {hds : List ExceptHandler} {l3 : List Hd3} (h : QH X cl hds l3) : ∃ w, Clauses X hds w ∧ Meets X cl W l3 w := by
  induction h with
  | nil => exact ⟨_, clauses_none hst hef tk, fun D H s x m h σ c dd H' a b c e => h σ _ _ H' a b c e⟩
  | @cons n x S b₀ suite np pos' hds l hn hcl hxn hg hdb hsu r ih =>
    obtain ⟨w, i1, i2⟩ := ih
    obtain ⟨ca, e1⟩ := hcl
    refine ⟨_, clauses_class (ts := fun _ _ _ => upS X.K cl W0 S) hst hef hx ⟨hg, hdb, .inl (hxn ▸ EK.at_ n hn ca e1)⟩ (fun a cls d pn => (hsu a pn).run) i1, fun D H s x m h σ c dd H' hs rx hm e => ?_⟩
    obtain ⟨yes, no⟩ := dsp_c h
    obtain ⟨C, hC, hc, rfl, rfl⟩ := id rx
    exact ⟨_, (EK.sub x.cls hC C hc n hn ca e1).2, fun q a ha => meets_suite (sl := none) (hsu 0 []).mono hs rx hm e ha (yes q), fun q => i2 D H s x m (no q) σ _ _ H' hs rx hm e⟩
  | @consAs n x y i S b₀ suite np pos' hds l hn hcl hxn hg hdb hi hln hsu r ih =>
    obtain ⟨w, i1, i2⟩ := ih
    obtain ⟨ca, e1⟩ := hcl
    refine ⟨_, clauses_as (ts := fun _ _ _ => upS X.K cl W0 S) hst hef hx hN hi hln ⟨hg, hdb, .inl (hxn ▸ EK.at_ n hn ca e1)⟩ (fun a cls d pn => (hsu a pn).run) i1, fun D H s x m h σ c dd H' hs rx hm e => ?_⟩
    obtain ⟨yes, no⟩ := dsp_c h
    obtain ⟨C, hC, hc, rfl, rfl⟩ := id rx
    exact ⟨_, (EK.sub x.cls hC C hc n hn ca e1).2, fun q a ha => meets_suite (sl := some i) (hsu 0 []).mono hs rx hm e ha (yes q), fun q => i2 D H s x m (no q) σ _ _ H' hs rx hm e⟩
  | @consTwo n1 n2 x1 x2 S b₀ suite p1 p2 tp pos' kk hds l hn1 hc1 hx1 hg1 hd1 hn2 hc2 hx2 hg2 hd2 hsu r ih =>
    obtain ⟨w, i1, i2⟩ := ih
    obtain ⟨a1, e1⟩ := hc1
    obtain ⟨a2, e2⟩ := hc2
    refine ⟨_, clauses_two (ts := fun _ _ _ => upS X.K cl W0 S) hst hef hx ⟨hg1, hd1, .inl (hx1 ▸ EK.at_ n1 hn1 a1 e1)⟩ ⟨hg2, hd2, .inl (hx2 ▸ EK.at_ n2 hn2 a2 e2)⟩ (fun a cls d pn => (hsu a pn).run) i1, fun D H s x m h σ c dd H' hs rx hm e => ?_⟩
    obtain ⟨yes1, no1⟩ := dsp_c h
    obtain ⟨C, hC, hc, rfl, rfl⟩ := id rx
    have f1 := (EK.sub x.cls hC C hc n1 hn1 a1 e1).2
    have f2 := (EK.sub x.cls hC C hc n2 hn2 a2 e2).2
    refine ⟨subX x.cls n1 || (subX x.cls n2 || false), by simp only [PySem.W.exmAny, f1, f2], fun q a ha => ?_, fun q => ?_⟩ <;> cases q1 : subX x.cls n1 <;> cases q2 : subX x.cls n2 <;> rw [q1, q2] at q <;> first | cases q | skip
    · exact meets_suite (sl := none) (hsu 0 []).mono hs rx hm e ha ((dsp_c (no1 q1)).1 q2)
    · exact meets_suite (sl := none) (hsu 0 []).mono hs rx hm e ha (yes1 q1)
    · exact meets_suite (sl := none) (hsu 0 []).mono hs rx hm e ha (yes1 q1)
    · exact i2 D H s x m ((dsp_c (no1 q1)).2 q2) σ _ _ H' hs rx hm e
theorem mono_dsp {hds : List ExceptHandler} {l3 : List Hd3} (h : QH X cl hds l3) {D D' : N3} (l : N3.Le D D') : ∀ s x m, dsp l3 D s x m → dsp l3 D' s x m := by
  induction h with
  | nil => exact l.ex
  | cons hn hcl hx hg hdb hsu r ih => exact fun s x m h => c_dsp (fun q a ha => (hsu a []).mono _ _ _ _ (endN_mono l) ((dsp_c h).1 q a ha)) fun q => ih s x m ((dsp_c h).2 q)
  | consAs hn hcl hx hg hdb hi hln hsu r ih => exact fun s x m h => c_dsp (fun q a ha => (hsu a []).mono _ _ _ _ (endN_mono l) ((dsp_c h).1 q a ha)) fun q => ih s x m ((dsp_c h).2 q)
  | consTwo hn1 hc1 hx1 hg1 hd1 hn2 hc2 hx2 hg2 hd2 hsu r ih =>
    exact fun s x m h => c_dsp (fun q a ha => (hsu a []).mono _ _ _ _ (endN_mono l) ((dsp_c h).1 q a ha)) fun q => c_dsp (fun q2 a ha => (hsu a []).mono _ _ _ _ (endN_mono l) ((dsp_c ((dsp_c h).2 q)).1 q2 a ha)) fun q2 => ih s x m ((dsp_c ((dsp_c h).2 q)).2 q2)
theorem qs_try {body : List Stmt} {h₀ : ExceptHandler} {hds : List ExceptHandler} {l3 : List Hd3} {pos : Pos} {B : TS3} (EK : ExK X.K X.mg cl) (hs : X.stack = X.env :: X.outer) (hf : X.env.frame = some X.env.locals) (hex : X.ex = []) (hN : X.N.Nodup) (tk : Takes X W) (pw : PassesOwn (model X.prog X.w) X.A X.env X.xe)
    (hb : ∀ (W : WX) (pn : List (Addr × Obj)) (xe : Value → Shared → Prop), Takes (X.tr pn xe) W → PassesOwn (model X.prog X.w) X.A X.env xe → QB (X.tr pn xe) cl W body B) (hh : QH X cl (h₀ :: hds) l3) : QS X cl W (.Try body (h₀ :: hds) [] [] pos) (sTry B l3) := by
  obtain ⟨w, k1, k2⟩ := qh_up EK hs hf hex hN tk hh
  have mB : MonoS B := (hb (fun _ _ _ _ => False) X.pn X.xe takes_none5 pw).mono
  refine ⟨fun s m D D' le q => mB s m { D with ex := dsp l3 D } { D' with ex := dsp l3 D' } ⟨le.nx, le.rt, le.bk, le.ct, mono_dsp hh le⟩ q, ?_⟩
  refine PS.imp (try_clauses (tb := fun W => upS X.K cl W B) hs hf (fun W pn xe t p => (hb W pn xe t p).run) k1) fun D σ H ⟨s, m, h1, h2, q⟩ => ⟨s, m, h1, h2, ?_⟩
  exact mB s m { (cN X.K cl W H D) with ex := dsp l3 (cN X.K cl W H D) } (cN X.K cl (w D) H D) ⟨fun _ _ h => h, fun _ _ h => h, fun _ _ h => h, fun _ _ h => h, fun s x m h σ c dd H' a b e f => k2 D H s x m h σ c dd H' a b e f⟩ q
/-! ### raise -/
def sRs (n : String) : TS3 := fun D s m => D.ex s ⟨n, none⟩ m
/-! ### raise of an exception without fields -/
theorem qs_raise {n : String} {x msg : Str} {j : Nat} {p p2 p3 pos : Pos} (EK : ExK X.K X.mg cl) (tk : Takes X W) (hc : X.calm = true) (hn : n ∈ eNames) (hcl : ∃ a, cl n = some a) (ho : n ≠ "Clash") (hx : x = Str.ofString n) (hg : Gl X x) (hdb : (x == ("__debug__" : Str)) = false) :
    QS X cl W (.Raise (some (.Call (.Name x p) [.Constant (.str msg) j p2] [] p3)) none pos) (sRs n) := by
  obtain ⟨ca, e1⟩ := hcl
  have e2 := EK.at_ n hn ca e1
  have B := EK.ok n hn ca e1
  refine ⟨fun s m D D' le q => le.ex _ _ _ q, ?_⟩
  refine PS.imp (ps_raise hc tk (pmk_own PySem.F.excBase_ValueError (EK.own n hn ho ca e1) (hx ▸ e2) B.kp (raises_own B.xf.exC B.ty) hg hdb)) fun D σ H ⟨s, m, h1, h2, q⟩ => ?_
  exact q σ _ _ H h1 ⟨ca, hn, e1, rfl, rfl⟩ h2 (Ext.refl H)
end
end PV

/-! Things as texts. -/
namespace PV
open PySem L2 PyProof.Rows
open TL (numL numL_lt numL_step numL_digits numL_ne numL_free numL_val numL_inj numL_len)
/-- the signs of a whole number -/
def intL (i : Int) : List Nat := if i < 0 then 45 :: numL i.natAbs else numL i.natAbs
theorem ofS_app (a b : String) : Str.ofString (a ++ b) = Str.ofString a ++ Str.ofString b := by
  refine TL.ext_tl ?_
  rw [TL.tl_append, TL.tl_ofString, TL.tl_ofString, TL.tl_ofString, String.toList_append, List.map_append]
theorem str_int (i : Int) : (Str.ofString (toString i)).cps.toList = intL i := by
  unfold intL
  cases i with
  | ofNat n =>
    rw [if_neg (by simp)]
    exact TL.tl_num n
  | negSucc n =>
    rw [if_pos (Int.negSucc_lt_zero n)]
    have e : toString (Int.negSucc n) = "-" ++ toString ((n + 1 : Nat) : Int) := rfl
    rw [e, ofS_app]
    show TL.tl (Str.ofString "-" ++ Str.ofString (toString ((n + 1 : Nat) : Int))) = _
    rw [TL.tl_append, TL.tl_num]
    rfl
theorem intL_free {i : Int} {s : Nat} (h : (s < 48 ∨ 57 < s) ∧ s ≠ 45) : s ∉ intL i := by
  unfold intL
  split
  · intro q
    rcases List.mem_cons.mp q with q | q
    · exact h.2 q
    · exact numL_free h.1 q
  · exact numL_free h.1
theorem intL_nat (n : Nat) : intL (n : Int) = numL n := by
  unfold intL
  rw [if_neg (by omega)]
  rfl
theorem numL_no45 {n : Nat} {l : List Nat} (h : numL n = 45 :: l) : False := by
  have := numL_digits n 45 (by rw [h]; exact List.mem_cons_self ..)
  omega
theorem intL_inj {i j : Int} (h : intL i = intL j) : i = j := by
  unfold intL at h
  split at h <;> split at h
  · have := numL_inj (List.cons.inj h).2; omega
  · exact (numL_no45 h.symm).elim
  · exact (numL_no45 h).elim
  · have := numL_inj h; omega
mutual
/-- the text that writes a thing -/
def writeD : D → List Nat
  | .non => [111]
  | .int i => 110 :: (intL i ++ [59])
  | .str z => 116 :: (numL z.cps.toList.length ++ 58 :: z.cps.toList)
  | .tup l => 40 :: (writesD l ++ [41])
  | .bl _ => [111] | .ref _ => [111] | .ty _ => [111]
def writesD : List D → List Nat
  | [] => []
  | d :: l => writeD d ++ writesD l
end
theorem writesD_app {l r : List D} : writesD (l ++ r) = writesD l ++ writesD r := by
  induction l with
  | nil => rfl
  | cons d l ih => simp [writesD, ih]
theorem write_head (d : D) : ∃ c t, writeD d = c :: t ∧ c ≠ 41 := by
  cases d <;> exact ⟨_, _, by unfold writeD; rfl, by decide⟩
theorem cut_at {x : Nat} : ∀ {A B r r' : List Nat}, x ∉ A → x ∉ B → A ++ x :: r = B ++ x :: r' → A = B ∧ r = r'
  | [], [], _, _, _, _, h => ⟨rfl, (List.cons.inj h).2⟩
  | [], b :: B, _, _, _, hb, h => absurd (show x ∈ b :: B by rw [(List.cons.inj h).1]; exact List.mem_cons_self ..) hb
  | a :: A, [], _, _, ha, _, h => absurd (show x ∈ a :: A by rw [← (List.cons.inj h).1]; exact List.mem_cons_self ..) ha
  | a :: A, b :: B, _, _, ha, hb, h => by
    obtain ⟨e, h⟩ := List.cons.inj h
    obtain ⟨e2, e3⟩ := cut_at (fun z => ha (List.mem_cons_of_mem _ z)) (fun z => hb (List.mem_cons_of_mem _ z)) h
    exact ⟨by rw [e, e2], e3⟩
theorem writes_uniq {n : Nat} (ih : ∀ {a b : D} {r r' : List Nat}, Fine n a → Fine n b → writeD a ++ r = writeD b ++ r' → a = b ∧ r = r') : ∀ {l l' : List D} {r r' : List Nat}, (∀ d ∈ l, Fine n d) → (∀ d ∈ l', Fine n d) → writesD l ++ 41 :: r = writesD l' ++ 41 :: r' → l = l' ∧ r = r'
  | [], [], _, _, _, _, h => ⟨rfl, (List.cons.inj h).2⟩
  | [], d :: l', _, _, _, _, h => by
    obtain ⟨c, t, e, ne⟩ := write_head d
    unfold writesD at h
    rw [e] at h
    exact absurd (List.cons.inj h).1.symm ne
  | d :: l, [], _, _, _, _, h => by
    obtain ⟨c, t, e, ne⟩ := write_head d
    unfold writesD at h
    rw [e] at h
    exact absurd (List.cons.inj h).1 ne
  | a :: l, b :: l', _, _, h1, h2, h => by
    unfold writesD at h
    rw [List.append_assoc, List.append_assoc] at h
    obtain ⟨e, h⟩ := ih (h1 a (List.mem_cons_self ..)) (h2 b (List.mem_cons_self ..)) h
    obtain ⟨e2, e3⟩ := writes_uniq ih (fun e he => h1 e (List.mem_cons_of_mem _ he)) (fun e he => h2 e (List.mem_cons_of_mem _ he)) h
    exact ⟨by rw [e, e2], e3⟩
theorem write_flat {n : Nat} {a b : D} {r r' : List Nat} (h1 : Fine n a) (h2 : Fine n b) (ht : ∀ l l', a = .tup l → b = .tup l' → a = b ∧ r = r') (h : writeD a ++ r = writeD b ++ r') : a = b ∧ r = r' := by
  cases a <;> cases b <;> first
    | (cases n <;> exact (show False from h1).elim)
    | (cases n <;> exact (show False from h2).elim)
    | (simp [writeD] at h; done)
    | exact ⟨rfl, (List.cons.inj h).2⟩
    | exact ht _ _ rfl rfl
    | skip
  · rename_i i j
    have h : intL i ++ 59 :: r = intL j ++ 59 :: r' := by simpa [writeD] using h
    obtain ⟨e, e2⟩ := cut_at (intL_free ⟨by decide, by decide⟩) (intL_free ⟨by decide, by decide⟩) h
    exact ⟨by rw [intL_inj e], e2⟩
  · rename_i i j
    have h : numL i.cps.toList.length ++ 58 :: (i.cps.toList ++ r) = numL j.cps.toList.length ++ 58 :: (j.cps.toList ++ r') := by simpa [writeD] using h
    obtain ⟨e, e2⟩ := cut_at (numL_free (by decide)) (numL_free (by decide)) h
    have e := numL_inj e
    obtain ⟨e3, e4⟩ := List.append_inj e2 e
    exact ⟨by rw [PySem.W.str_of_cps e3], e4⟩
theorem write_uniq0 : ∀ {n : Nat} {a b : D} {r r' : List Nat}, Fine n a → Fine n b → writeD a ++ r = writeD b ++ r' → a = b ∧ r = r' := by
  intro n
  induction n with
  | zero => intro a b r r' h1 h2 h; exact write_flat h1 h2 (fun l l' e _ => by subst e; exact (show False from h1).elim) h
  | succ n ih =>
    intro a b r r' h1 h2 h
    refine write_flat h1 h2 (fun l l' e e' => ?_) h
    subst e e'
    have h : writesD l ++ 41 :: r = writesD l' ++ 41 :: r' := by simpa [writeD] using h
    obtain ⟨e, e2⟩ := writes_uniq ih h1.2 h2.2 h
    exact ⟨by rw [e], e2⟩
theorem write_uniq {n k : Nat} {a b : D} {r r' : List Nat} (h1 : Fine n a) (h2 : Fine k b) (h : writeD a ++ r = writeD b ++ r') : a = b ∧ r = r' :=
  write_uniq0 (h1.le (Nat.le_max_left n k)) (h2.le (Nat.le_max_right n k)) h
theorem write_pre {n k : Nat} {a b : D} {w : List Nat} (h1 : Fine n a) (h2 : Fine k b) (p1 : writeD a <+: w) (p2 : writeD b <+: w) : a = b := by
  obtain ⟨r, e⟩ := p1
  obtain ⟨r', e'⟩ := p2
  exact (write_uniq h1 h2 (e.trans e'.symm)).1
/-! ### how long -/
theorem num_len {i : Int} (h : NumOk i) : (intL i).length ≤ 32 := by
  unfold NumOk at h
  have : (numL i.natAbs).length ≤ 31 := numL_len (k := 31) (by decide) (by omega)
  unfold intL
  split
  · simp; omega
  · omega
theorem writes_len {n : Nat} (ih : ∀ d, Fine n d → (writeD d).length ≤ 65 * d.sz) : ∀ {l : List D}, (∀ d ∈ l, Fine n d) → (writesD l).length ≤ 65 * D.szs l
  | [], _ => by simp [writesD]
  | d :: l, h => by
    have h1 := ih d (h d (List.mem_cons_self ..))
    have h2 := writes_len ih fun e he => h e (List.mem_cons_of_mem _ he)
    simp only [writesD, List.length_append, D.szs]
    omega
theorem flat_len {n : Nat} {d : D} (h : Fine n d) (ht : ∀ l, d = .tup l → (writeD d).length ≤ 65 * d.sz) : (writeD d).length ≤ 65 * d.sz := by
  cases d with
  | tup l => exact ht l rfl
  | int i => have := num_len h.num; simp [writeD, D.sz]; omega
  | str z =>
    have h1 := h.txt.1
    have : (numL z.cps.toList.length).length ≤ 2 := numL_len (k := 2) (by decide) (by omega)
    simp [writeD, D.sz] at *; omega
  | _ => simp [writeD, D.sz]
theorem Fine.write_len : ∀ {n : Nat} {d : D}, Fine n d → (writeD d).length ≤ 65 * d.sz := by
  intro n
  induction n with
  | zero => intro d h; exact flat_len h fun l e => by subst e; cases h
  | succ n ih =>
    intro d h
    refine flat_len h fun l e => ?_
    subst e
    have := writes_len (n := n) (fun d hd => ih hd) h.2
    simp only [writeD, D.sz, List.length_cons, List.length_append, List.length_nil]
    omega
/-! ### figures -/
theorem numL_head {n : Nat} {r : List Nat} (h : numL n = 48 :: r) : r = [] := by
  have hd := numL_digits n
  have hv := numL_val n
  rw [h] at hd hv
  by_cases h9 : n < 10
  · rw [numL_lt h9] at h
    exact (List.cons.inj h).2.symm
  · exfalso
    have key : ∀ m, 10 ≤ m → ∃ c t, numL m = c :: t ∧ 49 ≤ c := by
      intro m
      induction m using Nat.strongRecOn with
      | _ m ih =>
        intro hm
        rw [numL_step hm]
        by_cases h1 : 10 ≤ m / 10
        · obtain ⟨c, t, e, hc⟩ := ih (m / 10) (by omega) h1
          exact ⟨c, t ++ [48 + m % 10], by rw [e]; rfl, hc⟩
        · rw [numL_lt (by omega)]
          exact ⟨_, _, rfl, by omega⟩
    obtain ⟨c, t, e, hc⟩ := key n (by omega)
    rw [h] at e
    have := (List.cons.inj e).1
    omega
theorem val_from : ∀ (cs : List Nat) (a : Nat), NumText.AllDigits cs → cs.foldl (fun acc c => acc * 10 + (c - 48)) a < (a + 1) * 10 ^ cs.length
  | [], a, _ => by simp
  | c :: cs, a, h => by
    have d : c - 48 < 10 := by have := h.head; omega
    calc _ < (a * 10 + (c - 48) + 1) * 10 ^ cs.length := val_from cs _ h.tail
      _ ≤ (a + 1) * 10 * 10 ^ cs.length := Nat.mul_le_mul_right _ (by omega)
      _ = (a + 1) * 10 ^ (cs.length + 1) := by rw [Nat.mul_assoc, Nat.pow_succ, Nat.mul_comm 10]
theorem val_lt {cs : List Nat} (h : NumText.AllDigits cs) : NumText.digitsVal cs < 10 ^ cs.length := by
  have q := val_from cs 0 h
  rwa [Nat.zero_add, Nat.one_mul] at q
theorem chars_back {l : List Nat} (h : NumText.AllDigits l) : (l.map Char.ofNat).map Char.toNat = l := by
  rw [List.map_map]
  have : l.map (Char.toNat ∘ Char.ofNat) = l.map id := by
    refine List.map_congr_left fun c hc => ?_
    have := h c hc
    show (Char.ofNat c).toNat = c
    obtain ⟨d, rfl⟩ : ∃ d, c = 48 + d := ⟨c - 48, by omega⟩
    have : ∀ d, d < 10 → (Char.ofNat (48 + d)).toNat = 48 + d := by decide
    exact this d (by omega)
  rw [this, List.map_id]
/-- figures without a nought ahead are those of their number -/
theorem numL_of {cs : List Nat} (h : NumText.AllDigits cs) (hne : cs ≠ []) (h0 : ∀ r, cs = 48 :: r → r = []) : numL (NumText.digitsVal cs) = cs := by
  obtain ⟨c, r, rfl⟩ : ∃ c r, cs = c :: r := by cases cs with
    | nil => exact absurd rfl hne
    | cons c r => exact ⟨c, r, rfl⟩
  have := NumText.toDigits_digitsVal r.length (c :: r) rfl h (by
    by_cases e : c = 48
    · subst e; exact .inl (by rw [h0 r rfl]; rfl)
    · have := h.head; exact .inr ⟨c, r, rfl, by omega⟩)
  unfold numL
  rw [this, chars_back h]
end PV

/-! More steps: exceptions, texts. -/
namespace PV
open PySem L2 PyProof.Rows
section
variable {T : Tb} {L i j : Nat} {s : S3} {m : Mp} {k : K3} {x : X3} {d u v : D} {A B C : TE3} {R : TA3} {nx bk ct : S3 → Mp → Prop} {rt : K3} {ex : S3 → X3} {t t' : TS3} {c c' : TT3} {kb : Bool → Mp → Prop} {P Q : Prop} {p q : Addr} {l r : List D}
theorem x_rs {n : String} (h : ex s ⟨n, none⟩ m) : sRs n ⟨nx, rt, bk, ct, ex⟩ s m := h
theorem x_try {hs : List Hd3} (h : t ⟨nx, rt, bk, ct, dsp hs ⟨nx, rt, bk, ct, ex⟩⟩ s m) : sTry t hs ⟨nx, rt, bk, ct, ex⟩ s m := h
/-- a clause that takes it -/
theorem x_dsY {n : String} {e : Xc} {hs : List Hd3} (h0 : subX e.cls n = true) (h : ∀ a, m a = none → t ⟨nx, rt, bk, ct, fun _ => noX⟩ s (mset m a (.exc e.cls e.dct))) : dsp ((n, none, t) :: hs) ⟨nx, rt, bk, ct, ex⟩ s e m := by
  show if subX e.cls n = true then _ else _
  rw [if_pos h0]; exact h
theorem x_dsYA {n : String} {e : Xc} {hs : List Hd3} (h0 : subX e.cls n = true) (h : ∀ a, m a = none → t ⟨fun s m => nx (s.set i none) m, rt, fun s m => bk (s.set i none) m, fun s m => ct (s.set i none) m, fun _ => noX⟩ (s.set i (some (.ref a))) (mset m a (.exc e.cls e.dct))) :
    dsp ((n, some i, t) :: hs) ⟨nx, rt, bk, ct, ex⟩ s e m := by
  show if subX e.cls n = true then _ else _
  rw [if_pos h0]; exact h
theorem x_dsN {n : String} {o : Option Nat} {e : Xc} {hs : List Hd3} (h0 : subX e.cls n = false) (h : dsp hs ⟨nx, rt, bk, ct, ex⟩ s e m) : dsp ((n, o, t) :: hs) ⟨nx, rt, bk, ct, ex⟩ s e m := by
  show if subX e.cls n = true then _ else _
  rw [if_neg (by rw [h0]; decide)]; exact h
theorem x_ds0 {e : Xc} (h : ex s e m) : dsp [] ⟨nx, rt, bk, ct, ex⟩ s e m := h
theorem x_ise {ns : List String} (h : A s m (fun d m1 => isED d ns m1 k) x) : eIsE A ns s m k x := h
theorem xf_isE {C : String} {dc : Option Addr} {ns : List String} (h1 : m p = some (.exc C dc)) (h2 : ∀ dd, dc = some dd → ∃ fs, m dd = some (.xd fs)) (h : k (.bl (ns.any (subX C))) m) : isED (.ref p) ns m k := .inl ⟨p, C, dc, rfl, h1, h2, h⟩
theorem xf_isE0 {C : String} {ns : List String} (h1 : m p = some (.exc C none)) (h : k (.bl (ns.any (subX C))) m) : isED (.ref p) ns m k := .inl ⟨p, C, none, rfl, h1, fun _ e => (by cases e), h⟩
theorem xf_isEN {ns : List String} (h : k (.bl false) m) : isED .non ns m k := .inr ⟨rfl, h⟩
theorem xf_join {z : Str} {ys : List Str} (h1 : RL m p (ys.map D.str)) (h0 : (ys.map (·.length)).sum + ys.length * z.length ≤ 1000000) (h : k (.str (Txt.join z ys)) m) : fJoin (.str z) [.ref p] m k :=
  ⟨z, ys, rfl, .inl ⟨p, rfl, h1⟩, Nat.le_trans h0 (by decide), h⟩
theorem xf_inS {z : Str} {c : Nat} (h : k (.bl (decide (c ∈ z.cps.toList))) m) : fIn false (.str ⟨#[c]⟩) (.str z) m k := .inr (.inl ⟨_, _, rfl, rfl, by rw [PySem.StrLaws.found_one]; exact h⟩)
theorem xf_ninS {z : Str} {c : Nat} (h : k (.bl (!decide (c ∈ z.cps.toList))) m) : fIn true (.str ⟨#[c]⟩) (.str z) m k := .inr (.inl ⟨_, _, rfl, rfl, by rw [PySem.StrLaws.found_one]; exact h⟩)
end
/-! ### pieces of texts -/
theorem drop_min {α : Type} {l : List α} {a : Nat} : l.drop (min a l.length) = l.drop a := by
  by_cases h : a ≤ l.length
  · rw [Nat.min_eq_left h]
  · rw [Nat.min_eq_right (by omega), List.drop_eq_nil_of_le (Nat.le_refl _), List.drop_eq_nil_of_le (by omega)]
theorem cutS_nat {z : Str} {a b : Nat} : (cutS z (some (a : Int)) (some (b : Int))).cps.toList = (z.cps.toList.drop a).take (b - a) := by
  rw [cutS_list, HT.sIx_nat, HT.sIx_nat, str_len, drop_min]
  by_cases h : a ≤ z.cps.toList.length
  · by_cases h2 : b ≤ z.cps.toList.length
    · rw [Nat.min_eq_left h, Nat.min_eq_left h2]
    · rw [Nat.min_eq_left h, Nat.min_eq_right (by omega)]
      have : (z.cps.toList.drop a).length = z.cps.toList.length - a := List.length_drop ..
      rw [List.take_of_length_le (by omega), List.take_of_length_le (by omega)]
  · have : z.cps.toList.drop a = [] := List.drop_eq_nil_of_le (by omega)
    rw [this]; simp
theorem str_eq {a b : Str} : a = b ↔ a.cps.toList = b.cps.toList := ⟨fun h => by rw [h], fun h => PySem.W.str_of_cps h⟩
/-- the sign at a place -/
theorem sign_at {z : Str} {a c : Nat} : cutS z (some (a : Int)) (some ((a : Int) + 1)) = ⟨#[c]⟩ ↔ z.cps.toList[a]? = some c := by
  rw [show ((a : Int) + 1) = ((a + 1 : Nat) : Int) by omega, str_eq, cutS_nat]
  show (z.cps.toList.drop a).take (a + 1 - a) = [c] ↔ _
  rw [show a + 1 - a = 1 by omega]
  cases e : z.cps.toList[a]? with
  | none =>
    have := List.getElem?_eq_none_iff.mp e
    rw [List.drop_eq_nil_of_le this]; simp
  | some b =>
    obtain ⟨h1, h2⟩ := List.getElem?_eq_some_iff.mp e
    rw [List.drop_eq_getElem_cons h1, h2]; simp
theorem sign_none {z : Str} {a : Nat} (h : z.cps.toList.length ≤ a) {c : Nat} : cutS z (some (a : Int)) (some ((a : Int) + 1)) ≠ ⟨#[c]⟩ := by
  intro q
  rw [sign_at, List.getElem?_eq_none h] at q; cases q
theorem ofS1 (c : Char) : Str.ofString (String.singleton c) = ⟨#[c.toNat]⟩ := by
  refine TL.ext_tl ?_
  rw [TL.tl_ofString, String.toList_singleton]; rfl
theorem drop_get {α : Type} {l : List α} {a : Nat} {c : α} (h : l[a]? = some c) : l.drop a = c :: l.drop (a + 1) := by
  obtain ⟨h1, h2⟩ := List.getElem?_eq_some_iff.mp h
  rw [List.drop_eq_getElem_cons h1, h2]
theorem get_drop {α : Type} {l r : List α} {a : Nat} {c : α} (h : l.drop a = c :: r) : l[a]? = some c := by
  have : (l.drop a)[0]? = some c := by rw [h]; rfl
  rwa [List.getElem?_drop, Nat.add_zero] at this
theorem pre_drop {α : Type} {w p r : List α} {a : Nat} (h : p ++ r = w.drop a) : w.drop (a + p.length) = r := by
  rw [← List.drop_drop, ← h, List.drop_left]
theorem pre_le {α : Type} {w p r : List α} {a : Nat} (ha : a ≤ w.length) (h : p ++ r = w.drop a) : a + p.length ≤ w.length := by
  have := congrArg List.length h
  rw [List.length_append, List.length_drop] at this
  omega
theorem atI_of_nat {α : Type} {l : List α} {n : Nat} (h : n < l.length) : atI l (n : Int) = l[n]? := by
  unfold atI ixN
  rw [if_pos (by omega), if_pos (by omega)]
  rfl
open Classical in
theorem xf_eqR {n : Nat} {a : D} {m : Mp} {k : K3} (h1 : Fine n a) (hn : n ≤ 64) (h : k (.bl true) m) : fEq a a m k := xf_eqF h1 h1 hn (by rw [decide_eq_true rfl]; exact h)
end PV

/-! Dicts by what they hold; seals reckoned on. -/
namespace PV
open PySem L2 PyProof.Rows
section
variable {κ : Type} [DecidableEq κ]
theorem getD_app {l r : List (κ × D)} {k : κ} : getD (l ++ r) k = (getD l k).or (getD r k) := by
  induction l with
  | nil => rfl
  | cons p l ih =>
    by_cases e : p.1 = k
    · rw [List.cons_append, getD_pos e, getD_pos e]; rfl
    · rw [List.cons_append, getD_neg e, getD_neg e, ih]
theorem getD_none {l : List (κ × D)} {k : κ} : getD l k = none ↔ (l.any fun kv => decide (kv.1 = k)) = false := by
  induction l with
  | nil => simp [getD_nil]
  | cons p l ih =>
    by_cases e : p.1 = k
    · rw [getD_pos e]; simp [e]
    · rw [getD_neg e, ih]; simp [e]
theorem getD_map {l : List (κ × D)} {k k' : κ} {v : D} : getD (l.map fun kv => if kv.1 = k then (kv.1, v) else kv) k' = if k' = k then (getD l k).map (fun _ => v) else getD l k' := by
  induction l with
  | nil => simp [getD_nil]
  | cons p l ih =>
    rw [List.map_cons]
    by_cases e : p.1 = k
    · rw [if_pos e]
      by_cases h : p.1 = k'
      · have hk : k' = k := h.symm.trans e
        rw [getD_pos (p := (p.1, v)) h, if_pos hk, getD_pos e]; rfl
      · rw [getD_neg (p := (p.1, v)) h, ih]
        have hk : ¬ k' = k := fun z => h (e.trans z.symm)
        rw [if_neg hk, if_neg hk, getD_neg h]
    · rw [if_neg e]
      by_cases h : p.1 = k'
      · have hk : ¬ k' = k := fun z => e (h.trans z)
        rw [getD_pos h, if_neg hk, getD_pos h]
      · rw [getD_neg h, ih]
        by_cases hk : k' = k
        · rw [if_pos hk, if_pos hk, getD_neg e]
        · rw [if_neg hk, if_neg hk, getD_neg h]
theorem getD_put {l : List (κ × D)} {k k' : κ} {v : D} : getD (putD l k v) k' = if k' = k then some v else getD l k' := by
  unfold putD
  by_cases h : (l.any fun kv => decide (kv.1 = k)) = true
  · rw [if_pos h, getD_map]
    by_cases hk : k' = k
    · rw [if_pos hk, if_pos hk]
      cases e : getD l k with
      | none => rw [getD_none.mp e] at h; cases h
      | some d => rfl
    · rw [if_neg hk, if_neg hk]
  · rw [if_neg h, getD_app]
    have h' : getD l k = none := getD_none.mpr (by cases q : (l.any fun kv => decide (kv.1 = k)) with
      | true => exact absurd q h
      | false => rfl)
    by_cases hk : k' = k
    · subst hk
      rw [if_pos rfl, h', getD_pos (p := (k', v)) rfl]; rfl
    · rw [if_neg hk, getD_neg (p := (k, v)) (fun z => hk z.symm), getD_nil]
      cases getD l k' <;> rfl
theorem len_put {l : List (κ × D)} {k : κ} {v : D} : (putD l k v).length ≤ l.length + 1 := by
  unfold putD
  split
  · rw [List.length_map]; omega
  · rw [List.length_append]; exact Nat.le_refl _
end
theorem xf_neB {a b : Bool} {m : Mp} {k : K3} (h : k (.bl (!(a == b))) m) : fNe (.bl a) (.bl b) m k := ⟨_, _, .bl a, .bl b, peq_l (Nat.zero_le _), h⟩
theorem xf_dinI0 {p : Addr} {m : Mp} {k : K3} {kvs : List (Key × D)} {n : Int} (h1 : m p = some (.dK kvs) ∨ m p = some (.rdK kvs)) (h : k (.bl (getD kvs (.inl n)).isSome) m) : fIn false (.int n) (.ref p) m k := xf_dinI h1 h
theorem xf_dinI1 {p : Addr} {m : Mp} {k : K3} {kvs : List (Key × D)} {n : Int} (h1 : m p = some (.dK kvs) ∨ m p = some (.rdK kvs)) (h : k (.bl (!(getD kvs (.inl n)).isSome)) m) : fIn true (.int n) (.ref p) m k := xf_dinI h1 h
theorem xf_dinS0 {p : Addr} {m : Mp} {k : K3} {kvs : List (Key × D)} {n : Str} (h1 : m p = some (.dK kvs) ∨ m p = some (.rdK kvs)) (h : k (.bl (getD kvs (.inr n)).isSome) m) : fIn false (.str n) (.ref p) m k := xf_dinS h1 h
theorem xf_dinS1 {p : Addr} {m : Mp} {k : K3} {kvs : List (Key × D)} {n : Str} (h1 : m p = some (.dK kvs) ∨ m p = some (.rdK kvs)) (h : k (.bl (!(getD kvs (.inr n)).isSome)) m) : fIn true (.str n) (.ref p) m k := xf_dinS h1 h
/-! ### seals reckoned on -/
def sB : Int := 1234567890123456789
def sM : Int := 2305843009213693951
theorem sealOn_nil {a : Int} : sealOn a [] = a := rfl
theorem sealOn_cons {a c : Int} {l : List Int} : sealOn a (c :: l) = sealOn ((a * sB + c) % sM) l := rfl
theorem seal_diff : ∀ (l : List Int) (a b : Int), ∃ t, sealOn a l = sealOn b l + (a - b) * sB ^ l.length + sM * t
  | [], a, b => ⟨0, by rw [sealOn_nil, sealOn_nil, List.length_nil, Int.pow_zero]; omega⟩
  | c :: l, a, b => by
    obtain ⟨t, ht⟩ := seal_diff l ((a * sB + c) % sM) ((b * sB + c) % sM)
    rw [sealOn_cons, sealOn_cons, ht, List.length_cons, Int.pow_succ]
    have h1 := Int.mul_ediv_add_emod (a * sB + c) sM
    have h2 := Int.mul_ediv_add_emod (b * sB + c) sM
    generalize (a * sB + c) % sM = x at *
    generalize (b * sB + c) % sM = y at *
    generalize (a * sB + c) / sM = p at *
    generalize (b * sB + c) / sM = q at *
    have e : x - y = (a - b) * sB - sM * (p - q) := by rw [Int.sub_mul, Int.mul_sub]; omega
    refine ⟨t - (p - q) * sB ^ l.length, ?_⟩
    have h5 : ((a - b) * sB - sM * (p - q)) * sB ^ l.length = (a - b) * (sB ^ l.length * sB) - sM * ((p - q) * sB ^ l.length) := by
      rw [Int.sub_mul, Int.mul_assoc, Int.mul_assoc, Int.mul_comm sB]
    rw [e, h5, Int.mul_sub]
    omega
/-- n times by the base -/
def mulOn (a : Int) : Nat → Int
  | 0 => a
  | n + 1 => mulOn a n * sB % sM
theorem mulOn_is {a : Int} (h0 : 0 ≤ a) (h1 : a < sM) (n : Nat) : 0 ≤ mulOn a n ∧ mulOn a n < sM ∧ ∃ t, mulOn a n = a * sB ^ n + sM * t := by
  induction n with
  | zero => exact ⟨h0, h1, 0, by rw [Int.pow_zero]; show a = _; omega⟩
  | succ n ih =>
    obtain ⟨i1, i2, t, i3⟩ := ih
    refine ⟨Int.emod_nonneg _ (by decide), Int.emod_lt_of_pos _ (by decide), t * sB - mulOn a n * sB / sM, ?_⟩
    have h1 := Int.mul_ediv_add_emod (mulOn a n * sB) sM
    have h2 : mulOn a n * sB = a * sB ^ (n + 1) + sM * (t * sB) := by
      conv => lhs; rw [i3, Int.add_mul, Int.mul_assoc, ← Int.pow_succ, Int.mul_assoc]
    show mulOn a n * sB % sM = _
    generalize mulOn a n * sB / sM = q at *
    rw [Int.mul_sub]
    omega
theorem seal_grown {a b : Int} (ha0 : 0 ≤ a) (ha1 : a < sM) (hb0 : 0 ≤ b) (hb1 : b < sM) (l : List Int) : (sealOn a l - mulOn a l.length + mulOn b l.length) % sM = sealOn b l := by
  obtain ⟨_, _, t1, h1⟩ := mulOn_is ha0 ha1 l.length
  obtain ⟨_, _, t2, h2⟩ := mulOn_is hb0 hb1 l.length
  obtain ⟨t3, h3⟩ := seal_diff l a b
  have hn : 0 ≤ sealOn b l ∧ sealOn b l < sM := sealOn_nn hb0 hb1 l
  have e : sealOn a l - mulOn a l.length + mulOn b l.length = sealOn b l + sM * (t3 - t1 + t2) := by
    rw [h1, h2, h3, Int.sub_mul, Int.mul_add, Int.mul_sub]
    omega
  rw [e, Int.add_mul_emod_self_left, Int.emod_eq_of_lt hn.1 hn.2]
theorem codes_snoc {l : List D} {i : Int} : codeD (.tup (l ++ [.int i])) = [4, ((l.length + 1 : Nat) : Int)] ++ (codesD l ++ [2, (i + 1000000000000000000000000000000) / 1000000000000000, (i + 1000000000000000000000000000000) % 1000000000000000]) := by
  simp [codeD, codesD_app, codesD]
theorem seal_snoc {l : List D} {i : Int} : sealOn ((sealOn 7 [4, (l.length : Int)] |> fun h => (sealOn h (codesD l) - mulOn h (codesD l).length + mulOn (sealOn 7 [4, ((l.length + 1 : Nat) : Int)]) (codesD l).length) % sM)) [2, (i + 1000000000000000000000000000000) / 1000000000000000, (i + 1000000000000000000000000000000) % 1000000000000000] + 1 = sealD (.tup (l ++ [.int i])) := by
  have h1 := sealOn_nn (a := 7) (by decide) (by decide) [4, (l.length : Int)]
  have h2 := sealOn_nn (a := 7) (by decide) (by decide) [4, ((l.length + 1 : Nat) : Int)]
  show sealOn ((sealOn (sealOn 7 [4, (l.length : Int)]) (codesD l) - mulOn (sealOn 7 [4, (l.length : Int)]) (codesD l).length + mulOn (sealOn 7 [4, ((l.length + 1 : Nat) : Int)]) (codesD l).length) % sM) _ + 1 = _
  rw [seal_grown h1.1 h1.2 h2.1 h2.2, ← sealOn_app, ← sealOn_app]
  unfold sealD
  rw [codes_snoc]
end PV

/-! More methods. -/
namespace PV
open PySem L2 PyProof.Rows
section
variable {X : Cx} {cl : Cl}
/-- s.find(y, i) -/
def fFind3 (o : D) (ds : List D) (m : Mp) (k : K3) : Prop := ∃ (z y : Str) (i : Int), o = .str z ∧ ds = [.str y, .int i] ∧ k (.int (Txt.find3 z y i)) m
theorem up_find3 : UpM X cl fFind3 (fun x xs H Q => ∃ (a b : Str) (i : Int), x = .str a ∧ xs = [.str b, .int i] ∧ Q (.int (Txt.find3 a b i)) H) := fun H m o v ds vs Q r1 r2 hm ⟨z, y, i, e1, e2, h⟩ => by
  subst e1 e2
  have r' : v = .str z := r1
  subst r'
  obtain ⟨w, w', rfl, rw, rw'⟩ := reps2 r2
  cases rw
  cases rw'
  exact ⟨z, y, i, rfl, rfl, h _ _ rfl hm (Ext.refl H)⟩
theorem mono_find3 : MonoM fFind3 := fun o ds m k k' hk ⟨z, y, i, e1, e2, h⟩ => ⟨z, y, i, e1, e2, hk _ _ h⟩
end
theorem xf_find3 {z y : Str} {i : Int} {m : Mp} {k : K3} (h : k (.int (Txt.find3 z y i)) m) : fFind3 (.str z) [.str y, .int i] m k := ⟨z, y, i, rfl, rfl, h⟩
theorem xf_mulS {z : Str} {n : Int} {m : Mp} {k : K3} (h1 : -1000 ≤ n) (h2 : n ≤ 1000) (h3 : z.cps.toList.length ≤ 1000) (h : k (.str (repS z n.toNat)) m) : fMul (.str z) (.int n) m k := ⟨h1, h2, by rw [str_len]; exact h3, h⟩
theorem repS_list {z : Str} {n : Nat} : (repS z n).cps.toList = (List.replicate n z.cps.toList).flatten := by unfold repS; simp
theorem from_nat {n a : Nat} : PySem.fromIndex n (a : Int) = a := by
  unfold PySem.fromIndex
  rw [if_neg (by omega)]; omega
theorem find3_is {z : Str} {c a : Nat} : (Txt.find3 z ⟨#[c]⟩ (a : Int) = -1 ∧ ∀ j, a ≤ j → z.cps.toList[j]? ≠ some c) ∨ ∃ j : Nat, a ≤ j ∧ Txt.find3 z ⟨#[c]⟩ (a : Int) = (j : Int) ∧ z.cps.toList[j]? = some c ∧ ∀ i, a ≤ i → i < j → z.cps.toList[i]? ≠ some c := by
  have h := PySem.StrLaws.find3_spec z c (a : Int)
  rw [from_nat] at h
  rcases h with ⟨h1, h2⟩ | h
  · refine .inl ⟨h1, fun j hj e => ?_⟩
    have hl := (List.getElem?_eq_some_iff.mp e).1
    exact h2 j hj (by rw [str_len]; exact hl) (PySem.StrLaws.getD_of_getElem? e)
  · obtain ⟨j, h1, h2, h3, h4, h5⟩ := h
    refine .inr ⟨j, h2, h1, PySem.StrLaws.getElem?_of_getD h3 h4, fun i hi hj e => ?_⟩
    exact h5 i hi hj (PySem.StrLaws.getD_of_getElem? e)
theorem xf_isET {p : Addr} {C : String} {ns : List String} {m : Mp} {k : K3} (h1 : m p = some (.exc C none)) (h2 : ns.any (subX C) = true) (h : k (.bl true) m) : isED (.ref p) ns m k := xf_isE0 h1 (by rw [h2]; exact h)
theorem xf_isEF {p : Addr} {C : String} {ns : List String} {m : Mp} {k : K3} (h1 : m p = some (.exc C none)) (h2 : ns.any (subX C) = false) (h : k (.bl false) m) : isED (.ref p) ns m k := xf_isE0 h1 (by rw [h2]; exact h)
end PV

/-! Classes of the program: made, fields, methods. -/
namespace PV
open PySem L2 PyProof.Rows
/-- a field put -/
def putFD (f : Str) (v : D) : List (Str × D) → List (Str × D)
  | [] => [(f, v)]
  | (g, x) :: r => if g = f then (g, v) :: r else (g, x) :: putFD f v r
theorem repk_look {K : PySem.W.Frag} {H : Hp} {f : Str} : ∀ {fs : List (Str × D)} {vs : List (Str × V)}, RepK K H fs vs → (fs.lookup f = none ∧ vs.lookup f = none) ∨ ∃ d v, fs.lookup f = some d ∧ vs.lookup f = some v ∧ Rep K H d v
  | [], _, h => by cases h; exact .inl ⟨rfl, rfl⟩
  | (g, d) :: fs, _, h => by
    obtain ⟨v, r, rfl, h2, h3⟩ := h
    rw [List.lookup_cons, List.lookup_cons]
    cases e : f == g with
    | true => exact .inr ⟨d, v, rfl, rfl, h2⟩
    | false => exact repk_look h3
theorem repk_lookS {K : PySem.W.Frag} {H : Hp} {f : Str} {fs : List (Str × D)} {vs : List (Str × V)} {d : D} (h : RepK K H fs vs) (e : fs.lookup f = some d) : ∃ v, vs.lookup f = some v ∧ Rep K H d v := by
  rcases repk_look (f := f) h with ⟨h1, _⟩ | ⟨d', v, h1, h2, h3⟩
  · rw [h1] at e; cases e
  · rw [h1] at e; cases e; exact ⟨v, h2, h3⟩
theorem repk_lookN {K : PySem.W.Frag} {H : Hp} {f : Str} {fs : List (Str × D)} {vs : List (Str × V)} (h : RepK K H fs vs) (e : fs.lookup f = none) : vs.lookup f = none := by
  rcases repk_look (f := f) h with ⟨_, h1⟩ | ⟨d', v, h1, h2, h3⟩
  · exact h1
  · rw [h1] at e; cases e
theorem repk_putF {K : PySem.W.Frag} {H : Hp} {f : Str} {d : D} {v : V} (q : Rep K H d v) : ∀ {fs : List (Str × D)} {vs : List (Str × V)}, RepK K H fs vs → RepK K H (putFD f d fs) (L2.putF f v vs)
  | [], _, h => by cases h; exact ⟨v, [], rfl, q, rfl⟩
  | (g, x) :: fs, _, h => by
    obtain ⟨w, r, rfl, h2, h3⟩ := h
    unfold putFD L2.putF
    by_cases e : g = f
    · rw [if_pos e, if_pos e]; exact ⟨v, r, rfl, q, h3⟩
    · rw [if_neg e, if_neg e]; exact ⟨w, _, rfl, h2, repk_putF q h3⟩
/-- what stands of the classes: no class of them has an attribute of a field's name -/
structure ClK (K : PySem.W.Frag) (cl : Cl) (fl : List Str) : Prop where
  cls : ∀ C a, C ∉ eNames → cl C = some a → Cls K a
  no : ∀ C a f, C ∉ eNames → cl C = some a → f ∈ fl → NoAttr K a f
section
variable {X : Cx} {cl : Cl} {W : WX} {fl : List Str} {o e a : Expr} {es : List Expr} {A B : TE3} {R : TA3} {pos p apos pos' : Pos} {f m : Str} {T : Tb} {L : Nat}
/-! ### fields -/
def eFld (f : Str) (A : TE3) : TE3 := fun s m k x => A s m (fun d m1 => ∃ a C fs v, d = .ref a ∧ m1 a = some (.ins C fs) ∧ fs.lookup f = some v ∧ k v m1) x
theorem q_fld (CK : ClK X.K cl fl) (hf : f ∈ fl) (ha : QE X cl W o A) (hb : attributeBase o f X.env (eval o X.env) = eval o X.env) : QE X cl W (.Attribute o f pos) (eFld f A) := by
  refine ⟨fun s m k k' x x' hk hx q => ha.mono _ _ _ _ _ _ (fun d m1 ⟨a, C, fs, v, h1, h2, h3, h4⟩ => ⟨a, C, fs, v, h1, h2, h3, hk _ _ h4⟩) hx q, ?_⟩
  refine PE.imp (pe_fld ha.run hb) fun σ H Q ⟨s, m, hs, hm, q⟩ => ⟨s, m, hs, hm, ha.mono _ _ _ _ _ _ (fun d m1 z v H1 r hm1 e1 => ?_) (fun _ _ z => z) q⟩
  obtain ⟨a, C, fs, w, rfl, h2, h3, h4⟩ := z
  have r' : v = .ref a := r
  obtain ⟨Ca, dx, fvs, ⟨hC, hc⟩, hh, hr⟩ := hm1.1 a _ h2
  obtain ⟨v', e3, r3⟩ := repk_lookS hr h3
  exact ⟨a, Ca, dx, fvs, v', r', hh, CK.cls C Ca hC hc, CK.no C Ca f hC hc hf, e3, h4 _ _ r3 hm1 e1⟩
/-- o.f = e -/
def sFldS (f : Str) (O V : TE3) : TS3 := fun D s m => V s m (fun v m1 => O s m1 (fun o m2 => ∃ a C fs, o = .ref a ∧ m2 a = some (.ins C fs) ∧ fs.length < 1000 ∧ D.nx s (mset m2 a (.ins C (putFD f v fs)))) (D.ex s)) (D.ex s)
theorem ext_insD {K : PySem.W.Frag} {H : Hp} {p C dx : Addr} {fs : List (Str × V)} {u : HO} (h : H p = some (.ins C dx fs)) : Ext H (upd H p u) := ext_ins h
theorem qs_fld {O V : TE3} (CK : ClK X.K cl fl) (hf : f ∈ fl) (ho : QE X cl W o O) (hv : QE X cl W e V) (hs : swapsWith e (some (.Attribute o f pos')) pos.line X.env = pure false) : QS X cl W (.Assign [.Attribute o f pos'] e pos) (sFldS f O V) := by
  refine ⟨fun s m D D' l q => hv.mono _ _ _ _ _ _ (fun v m1 z => ho.mono _ _ _ _ _ _ (fun o m2 ⟨a, C, fs, h1, h2, h3, h4⟩ => ⟨a, C, fs, h1, h2, h3, l.nx _ _ h4⟩) (fun _ _ z => l.ex _ _ _ z) z) (fun _ _ z => l.ex _ _ _ z) q, ?_⟩
  refine PS.imp (ps_fld ho.run hv.run hs) fun D σ H ⟨s, m, hs, hm, q⟩ => ?_
  refine ⟨s, m, hs, hm, hv.mono _ _ _ _ _ _ (fun v m1 z y H1 ry hm1 e1 => ?_) (fun _ _ z => ex_cX hs z) q⟩
  refine ⟨s, m1, hs.mono e1, hm1, ho.mono _ _ _ _ _ _ (fun od m2 z2 x H2 rx hm2 e2 => ?_) (fun _ _ z => cX_ext e1 (ex_cX hs z)) z⟩
  obtain ⟨a, C, fs, rfl, h2, h3, h4⟩ := z2
  have rx' : x = .ref a := rx
  obtain ⟨Ca, dx, fvs, ⟨hC, hc⟩, hh, hr⟩ := hm2.1 a _ h2
  refine ⟨a, Ca, dx, fvs, rx', hh, CK.cls C Ca hC hc, CK.no C Ca f hC hc hf, by rw [← hr.length]; exact h3, ?_⟩
  have ex := ext_ins (u := .ins Ca dx (L2.putF f y fvs)) hh
  exact h4 σ _ (hs.mono ((e1.trans e2).trans ex)) (hm2.put ex ⟨Ca, dx, _, ⟨hC, hc⟩, upd_same, (repk_putF (ry.mono e2) hr).mono ex⟩) ((e1.trans e2).trans ex)
/-! ### methods -/
/-- a def's promises at a level, wherever it stands -/
structure KnM (P : Program) (w : World) (K : PySem.W.Frag) (mg : Str → Option Value) (base : Heap) (cl : Cl) (T : Tb) (L : Nat) (i : Nat) (fa : Addr) : Prop where
  kp : PySem.W.keepIn K (.ref fa) = true
  isf : PySem.W.isFn K (.ref fa) = true
  fn : ∀ S, T i S → ∃ fd ps, FnOk P w K mg base (L2.CX P w) L fa fd ps (liftSp K cl S L) ∧ Binds K fd ps []
/-- the method table: of a class and a name the def's number -/
abbrev MT := String → String → Option Nat
structure Mts (P : Program) (w : World) (K : PySem.W.Frag) (mg : Str → Option Value) (base : Heap) (cl : Cl) (T : Tb) (L : Nat) (M : MT) (ns : List String) : Prop where
  at_ : ∀ C a, C ∉ eNames → cl C = some a → ∀ m ∈ ns, ∀ i, M C m = some i → ∃ fa, PySem.W.findIn K (.ref a) (Str.ofString m) = some (some (.ref fa)) ∧ KnM P w K mg base cl T L i fa
def eMeth (T : Tb) (L : Nat) (M : MT) (m : String) (O : TE3) (R : TA3) : TE3 := fun s mm k x => O s mm (fun o m1 => ∃ a C fs i, o = .ref a ∧ m1 a = some (.ins C fs) ∧ fs.lookup (Str.ofString m) = none ∧ M C m = some i ∧ R s m1 (fun ds m2 => callS T L i (.ref a :: ds) m2 k x) x) x
theorem mono_meth {M : MT} {m : String} (ho : MonoE A) (hr : MonoA R) : MonoE (eMeth T L M m A R) := fun s mm k k' x x' hk hx q =>
  ho _ _ _ _ _ _ (fun o m1 ⟨a, C, fs, i, h1, h2, h3, h4, h5⟩ => ⟨a, C, fs, i, h1, h2, h3, h4, hr _ _ _ _ _ _ (fun ds m2 ⟨S, t, al, g1, g2, g3, g4⟩ => ⟨S, t, al, g1, g2, fun d m' z => hk _ _ (g3 d m' z), fun e m' z => hx _ _ (g4 e m' z)⟩) hx h5⟩) hx q
theorem q_meth {M : MT} {n : String} {ns : List String} {pl : Sem Bool} (tk : Takes X W) (CK : ClK X.K cl fl) (MK : Mts X.prog X.w X.K X.mg X.base cl T L M ns) (hr : Room L X.A) (hn : n ∈ ns) (hm : m = Str.ofString n) (ho : QE X cl W o A) (ha : QA X cl W (e :: es) R)
    (hst : starEach (e :: es) X.env = (false, eval e X.env) :: starEach es X.env) (hpl : (backTo pos (starEach es X.env)).any (·.1) = false)
    (ht : eval (.Call (.Attribute o m apos) (e :: es) [] pos) X.env = (do let ov ← eval o X.env; standAt apos.atName; let (f, first) ← holding [ov] (getMethod ov m pl); callWith pos f first (backTo pos (starEach (e :: es) X.env)) (backToKw pos (keywordEach [] X.env)))) :
    QE X cl W (.Call (.Attribute o m apos) (e :: es) [] pos) (eMeth T L M n A R) := by
  subst hm
  refine ⟨mono_meth ho.mono ha.mono, ⟨fun pins s0 σ H Q I h => ?_⟩⟩
  obtain ⟨s, mm, hs, hm, h⟩ := h
  have hO : upE X.K cl W A σ H (fun v H1 => ∃ d m1, Rep X.K H1 d v ∧ Ab X.K cl H1 m1 ∧ Ext H H1 ∧ ∃ a C fs i, d = .ref a ∧ m1 a = some (.ins C fs) ∧ fs.lookup (Str.ofString n) = none ∧ M C n = some i ∧ R s m1 (fun ds m2 => callS T L i (.ref a :: ds) m2 (cE X.K cl H Q) (cX X.K cl W H σ)) (cX X.K cl W H σ)) :=
    ⟨s, mm, hs, hm, ho.mono _ _ _ _ _ _ (fun d m1 z v H1 r hm1 e1 => ⟨d, m1, r, hm1, e1, z⟩) (fun _ _ z => z) h⟩
  refine PySem.W.methodCall_KW (pl := pl) (thn (ho.run.run pins s0 σ H _ I hO) fun u s1 ⟨v, H1, I1, rv, d, m1, r, hm1, e1, a, C, fs, i, hd, h2, h3, h4, h5⟩ => ?_) ht
  subst hd
  have r' : v = .ref a := r
  subst r'
  obtain rfl : u = Value.ref a := rv
  obtain ⟨Ca, dx, fvs, ⟨hC, hc⟩, hh, hrr⟩ := hm1.1 a _ h2
  obtain ⟨fa, hf1, hf2⟩ := MK.at_ C Ca hC hc n hn i h4
  refine getmeth_ok I1 hh (CK.cls C Ca hC hc) ⟨hf1, hf2.isf, hf2.kp⟩ (repk_lookN hrr h3) ?_
  have hA : upA X.K cl W R σ H1 (fun vs H2 => ∃ ds m2, Reps X.K H2 ds vs ∧ Ab X.K cl H2 m2 ∧ Ext H H2 ∧ callS T L i (.ref a :: ds) m2 (cE X.K cl H Q) (cX X.K cl W H σ)) :=
    ⟨s, m1, hs.mono e1, hm1, ha.mono _ _ _ _ _ _ (fun ds m2 z vs H2 r2 hm2 e2 => ⟨ds, m2, r2, hm2, e1.trans e2, z⟩) (fun _ _ z => cX_ext e1 z) h5⟩
  refine PySem.W.callWith_K (first := [.ref a]) (h₀ := X.base) I.ok.mod.kin hf2.kp (thn (ha.run.run pos pins s1 σ H1 _ I1 hA) fun us s2 ⟨vs, H2, I2, r2, ds, m2, q1, hm2, e2, S, t, al, g1, g2, g3, g4⟩ => ⟨I2.kIn, ?_⟩) hst hpl
  obtain ⟨fd, ps, F, hb⟩ := hf2.fn S t
  exact run_fnS (us := .ref a :: us) (vs := .ref a :: vs) F hr hb (passAt tk σ) I2 (.cons rfl r2) ⟨.ref a :: ds, m2, al, ⟨.ref a, vs, rfl, rfl, q1⟩, hm2, g1, g2, fun d m' z => cE_ext e2 (g3 d m' z), fun x m' z c dd H' a' b e => g4 x m' z c dd H' a' b (e2.trans e)⟩
theorem q_meth0 {M : MT} {n : String} {ns : List String} {pl : Sem Bool} (tk : Takes X W) (CK : ClK X.K cl fl) (MK : Mts X.prog X.w X.K X.mg X.base cl T L M ns) (hr : Room L X.A) (hn : n ∈ ns) (hm : m = Str.ofString n) (ho : QE X cl W o A)
    (ht : eval (.Call (.Attribute o m apos) [] [] pos) X.env = (do let ov ← eval o X.env; standAt apos.atName; let (f, first) ← holding [ov] (getMethod ov m pl); callWith pos f first (backTo pos (starEach [] X.env)) (backToKw pos (keywordEach [] X.env)))) :
    QE X cl W (.Call (.Attribute o m apos) [] [] pos) (eMeth T L M n A aNil) := by
  subst hm
  refine ⟨mono_meth ho.mono (qa_nil (X := X) (cl := cl) (W := W)).mono, ⟨fun pins s0 σ H Q I h => ?_⟩⟩
  obtain ⟨s, mm, hs, hm, h⟩ := h
  have hO : upE X.K cl W A σ H (fun v H1 => ∃ d m1, Rep X.K H1 d v ∧ Ab X.K cl H1 m1 ∧ Ext H H1 ∧ ∃ a C fs i, d = .ref a ∧ m1 a = some (.ins C fs) ∧ fs.lookup (Str.ofString n) = none ∧ M C n = some i ∧ aNil s m1 (fun ds m2 => callS T L i (.ref a :: ds) m2 (cE X.K cl H Q) (cX X.K cl W H σ)) (cX X.K cl W H σ)) :=
    ⟨s, mm, hs, hm, ho.mono _ _ _ _ _ _ (fun d m1 z v H1 r hm1 e1 => ⟨d, m1, r, hm1, e1, z⟩) (fun _ _ z => z) h⟩
  refine PySem.W.methodCall_KW (pl := pl) (thn (ho.run.run pins s0 σ H _ I hO) fun u s1 ⟨v, H1, I1, rv, d, m1, r, hm1, e1, a, C, fs, i, hd, h2, h3, h4, h5⟩ => ?_) ht
  subst hd
  have r' : v = .ref a := r
  subst r'
  obtain rfl : u = Value.ref a := rv
  obtain ⟨Ca, dx, fvs, ⟨hC, hc⟩, hh, hrr⟩ := hm1.1 a _ h2
  obtain ⟨fa, hf1, hf2⟩ := MK.at_ C Ca hC hc n hn i h4
  refine getmeth_ok I1 hh (CK.cls C Ca hC hc) ⟨hf1, hf2.isf, hf2.kp⟩ (repk_lookN hrr h3) ?_
  obtain ⟨S, t, al, g1, g2, g3, g4⟩ := h5
  obtain ⟨fd, ps, F, hb⟩ := hf2.fn S t
  exact PySem.W.callWith_K0 (first := [.ref a]) I1.kIn hf2.kp (run_fnS (us := [.ref a]) (vs := [.ref a]) F hr hb (passAt tk σ) I1 (.cons rfl .nil) ⟨[.ref a], m1, al, ⟨.ref a, [], rfl, rfl, rfl⟩, hm1, g1, g2, fun d m' z => cE_ext e1 (g3 d m' z), fun x m' z c dd H' a' b e => g4 x m' z c dd H' a' b (e1.trans e)⟩)
/-! ### a method by its class: C.m(o, ..) -/
structure CMt (P : Program) (w : World) (K : PySem.W.Frag) (mg : Str → Option Value) (base : Heap) (cl : Cl) (T : Tb) (L : Nat) (C m : String) (i : Nat) : Prop where
  at_ : ∃ Ca fa mc, mg (Str.ofString C) = some (.ref Ca) ∧ PySem.W.readsIn K Ca mc = true ∧ PySem.W.specialIn K (.ref Ca) "__getattribute__" = some (some (.builtin "type.__getattribute__")) ∧ PySem.W.findCls K (.ref Ca) mc (Str.ofString m) = some (.val (.ref fa)) ∧
    PySem.W.handedIn (.ref fa) = true ∧ KnM P w K mg base cl T L i fa
theorem q_cmeth {C n : String} {i : Nat} {c : Str} {pl : Sem Bool} (tk : Takes X W) (CM : CMt X.prog X.w X.K X.mg X.base cl T L C n i) (hr : Room L X.A) (hc : c = Str.ofString C) (hm : m = Str.ofString n) (hg : Gl X c) (hdb : (c == ("__debug__" : Str)) = false) (ha : QA X cl W (e :: es) R)
    (hst : starEach (e :: es) X.env = (false, eval e X.env) :: starEach es X.env) (hpl : (backTo pos (starEach es X.env)).any (·.1) = false)
    (ht : eval (.Call (.Attribute (.Name c p) m apos) (e :: es) [] pos) X.env = (do let ov ← eval (.Name c p) X.env; standAt apos.atName; let (f, first) ← holding [ov] (getMethod ov m pl); callWith pos f first (backTo pos (starEach (e :: es) X.env)) (backToKw pos (keywordEach [] X.env)))) :
    QE X cl W (.Call (.Attribute (.Name c p) m apos) (e :: es) [] pos) (eCall T L i R) := by
  subst hm hc
  obtain ⟨Ca, fa, mc, g1, g2, g3, g4, g5, hf⟩ := CM.at_
  refine ⟨mono_call ha.mono, ⟨fun pins s0 σ H Q I h => ?_⟩⟩
  obtain ⟨s, mm, hs, hm, h⟩ := h
  refine PySem.W.methodCall_KW (pl := pl) (ld_glob I hg g1 ?_ hdb) ht
  refine PySem.W.method_cls I.kIn g3 (PySem.W.cls_value I.kIn g2 g4 g5 ?_)
  have hA : ∀ {s1}, Inv X pins σ H s1 → upA X.K cl W R σ H (fun vs H1 => ∃ ds m1, Reps X.K H1 ds vs ∧ Ab X.K cl H1 m1 ∧ Ext H H1 ∧ callS T L i ds m1 (cE X.K cl H Q) (cX X.K cl W H σ)) := fun _ =>
    ⟨s, mm, hs, hm, ha.mono _ _ _ _ _ _ (fun ds m1 z vs H1 r1 hm1 e1 => ⟨ds, m1, r1, hm1, e1, z⟩) (fun _ _ z => z) h⟩
  have J : Inv X pins σ H { s0 with toks := s0.toks + 1 } := I.tok _
  refine PySem.W.callWith_K (h₀ := X.base) I.ok.mod.kin hf.kp (thn (ha.run.run pos pins _ σ H _ J (hA J)) fun us s1 ⟨vs, H1, I1, r, ds, m1, r1, hm1, e1, S, t, al, h1, h2, h3, h4⟩ => ⟨I1.kIn, ?_⟩) hst hpl
  obtain ⟨fd, ps, F, hb⟩ := hf.fn S t
  exact run_fnS F hr hb (passAt tk σ) I1 r ⟨ds, m1, al, r1, hm1, h1, h2, fun d m' z => cE_ext e1 (h3 d m' z), fun x m' z c dd H' a b e => h4 x m' z c dd H' a b (e1.trans e)⟩
/-! ### made: C(..) -/
structure MkC (P : Program) (w : World) (K : PySem.W.Frag) (mg : Str → Option Value) (base : Heap) (cl : Cl) (T : Tb) (L : Nat) (C : String) (i : Nat) (fa : Addr) : Prop where
  at_ : ∃ Ca, C ∉ eNames ∧ cl C = some Ca ∧ mg (Str.ofString C) = some (.ref Ca) ∧ Mk K Ca fa ∧ ∀ j, j < L → KnM P w K mg base cl T j i fa
def eMake (T : Tb) (L i : Nat) (C : String) (R : TA3) : TE3 := fun s m k x => R s m (fun ds m1 => ∀ a, m1 a = none → callS T (L - 1) i (.ref a :: ds) (mset m1 a (.ins C [])) (fun d m2 => d = .non ∧ k (.ref a) m2) x) x
theorem mono_make {C : String} {i : Nat} (hr : MonoA R) : MonoE (eMake T L i C R) := fun s m k k' x x' hk hx h => hr _ _ _ _ _ _ (fun ds m1 z a ha => let ⟨S, t, al, h1, h2, h3, h4⟩ := z a ha; ⟨S, t, al, h1, h2, fun d m' y => let ⟨y1, y2⟩ := h3 d m' y; ⟨y1, hk _ _ y2⟩, fun e m' y => hx _ _ (h4 e m' y)⟩) hx h
/-- the class called: a new instance, its __init__ run; what it raises is wished for at the slots -/
theorem run_makeAt {CXx : CXT} {k : Nat} {fi C : Addr} {fd : FuncData} {ps : List Str} {sp : Sp} {E : XK} {pins : List (Addr × Obj)} {σ : L2.St} {H : Hp} {s : Shared} {Q : VK} {us : List Value} {vs : List V} (M : Mk X.K C fi) (F : FnOk X.prog X.w X.K X.mg X.base CXx k fi fd ps sp)
    (hr : Room (k + 1) X.A) (hb : Binds X.K fd ps []) (hx : PassesAt CXx X σ E) (I : Inv X pins σ H s) (r : Vals vs us)
    (h : ∀ x dx, x = s.heap.objs.size + 1 → H x = none → H dx = none → dx ≠ x → sp (.ref x :: vs) (upd (upd H dx (.own x)) x (.ins C dx [])) (fun v H2 => v = .non ∧ Q (.ref x) H2) E) : wpAny (model X.prog X.w) X.A (call (.ref C) us) (EP X pins σ Q) X.xe s := by
  obtain ⟨n, hn⟩ : ∃ n, n = s.heap.objs.size := ⟨_, rfl⟩
  have q0 := h (n + 1) n (by rw [hn]) (by rw [hn]; exact I.hok.fresh (Nat.le_succ _)) (by rw [hn]; exact I.hok.fresh (Nat.le_refl _)) (Nat.ne_of_lt (Nat.lt_succ_self _))
  subst hn
  have J := Inv.made (C := C) I
  have rr : Vals (V.ref (s.heap.objs.size + 1) :: vs) (Value.ref (s.heap.objs.size + 1) :: us) := .cons rfl r
  have hl : (Value.ref (s.heap.objs.size + 1) :: us).length = ps.length := by rw [← rr.length]; exact F.len _ _ _ _ q0
  have b := hb _ (Value.ref (s.heap.objs.size + 1) :: us) J.kIn (by rw [List.append_nil]; exact hl)
  rw [List.append_nil] at b
  refine wpAny_call (make_map (f := fi) I.kIn M.makes M.init (beq_iff_eq.mp M.fn) (codeAny_mono (F.run _ X.stack _ _ ⟨_, []⟩ _ _ _ E (hr.make C us []) (J.env0.make C us []) b rr q0) fun z s' hz => ?_))
  cases z with
  | error e => exact hx pins _ _ e s' J hz
  | ok fl => cases fl with
    | ret u =>
      obtain ⟨v, H', J3, rv, ev, q3⟩ := J.after hz
      subst ev
      exact ⟨rv, ⟨V.ref (s.heap.objs.size + 1), H', J3, rfl, q3⟩⟩
    | next => cases hz
    | brk => cases hz
    | cont => cases hz
theorem q_make {C : String} {i : Nat} {c : Str} (tk : Takes X W) {fa : Addr} (MC : MkC X.prog X.w X.K X.mg X.base cl T L C i fa) (hr : Room L X.A) (hc : c = Str.ofString C) (hg : Gl X c) (hdb : (c == ("__debug__" : Str)) = false) (ha : QA X cl W (e :: es) R)
    (hst : starEach (e :: es) X.env = (false, eval e X.env) :: starEach es X.env) (hpl : (backTo pos (starEach es X.env)).any (·.1) = false) : QE X cl W (.Call (.Name c p) (e :: es) [] pos) (eMake T L i C R) := by
  subst hc
  obtain ⟨Ca, g0, g1, g2, g3, g4⟩ := MC.at_
  refine ⟨mono_make ha.mono, ⟨fun pins s0 σ H Q I h => ?_⟩⟩
  obtain ⟨s, mm, hs, hm, h⟩ := h
  refine wpAny_Call_Name_kw (ld_glob I hg g2 ?_ hdb)
  have hA : upA X.K cl W R σ H (fun vs H1 => ∃ ds m1, Reps X.K H1 ds vs ∧ Ab X.K cl H1 m1 ∧ Ext H H1 ∧ ∀ a, m1 a = none → callS T (L - 1) i (.ref a :: ds) (mset m1 a (.ins C [])) (fun d m2 => d = .non ∧ cE X.K cl H Q (.ref a) m2) (cX X.K cl W H σ)) :=
    ⟨s, mm, hs, hm, ha.mono _ _ _ _ _ _ (fun ds m1 z vs H1 r1 hm1 e1 => ⟨ds, m1, r1, hm1, e1, z⟩) (fun _ _ z => z) h⟩
  refine PySem.W.callWith_K (h₀ := X.base) I.ok.mod.kin g3.kp (thn (ha.run.run pos pins s0 σ H _ I hA) fun us s1 ⟨vs, H1, I1, r, ds, m1, r1, hm1, e1, z⟩ => ⟨I1.kIn, ?_⟩) hst hpl
  -- which level
  obtain ⟨S, t, al, h1, h2, h3, h4⟩ := z (s1.heap.objs.size + 1) (hm1.free (I1.hok.fresh (Nat.le_succ _)))
  obtain ⟨L', rfl⟩ : ∃ L', L = L' + 1 := ⟨L - 1, by omega⟩
  obtain ⟨fd, ps, F, hb⟩ := (g4 L' (Nat.lt_succ_self _)).fn S t
  refine run_makeAt g3 F hr hb (passAt tk σ) I1 r fun x dx ex nx ndx ne => ?_
  subst ex
  have e2 : Ext H1 (upd H1 dx (.own (s1.heap.objs.size + 1))) := Ext.new ndx
  have nx2 : (upd H1 dx (.own (s1.heap.objs.size + 1))) (s1.heap.objs.size + 1) = none := by rw [upd_ne (Ne.symm ne)]; exact nx
  have e3 : Ext (upd H1 dx (.own (s1.heap.objs.size + 1))) (upd (upd H1 dx (.own (s1.heap.objs.size + 1))) (s1.heap.objs.size + 1) (.ins Ca dx [])) := Ext.new nx2
  have hm3 := (hm1.hid (u := .own (s1.heap.objs.size + 1)) ndx).new (o := .ins C []) (u := .ins Ca dx []) nx2 ⟨Ca, dx, [], ⟨g0, g1⟩, upd_same, rfl⟩
  have e13 := (e1.trans e2).trans e3
  refine ⟨.ref (s1.heap.objs.size + 1) :: ds, _, al, ⟨_, _, rfl, rfl, r1.mono (e2.trans e3)⟩, hm3, h1, h2, fun d m' y v H' rv hm' e' => ?_, fun x m' y c dd H' a b e => h4 x m' y c dd H' a b (e13.trans e)⟩
  obtain ⟨y1, y2⟩ := h3 d m' y
  subst y1
  exact ⟨rv, y2 _ H' rfl hm' (e13.trans e')⟩
theorem q_make0 {C : String} {i : Nat} {c : Str} (tk : Takes X W) {fa : Addr} (MC : MkC X.prog X.w X.K X.mg X.base cl T L C i fa) (hr : Room L X.A) (hc : c = Str.ofString C) (hg : Gl X c) (hdb : (c == ("__debug__" : Str)) = false) : QE X cl W (.Call (.Name c p) [] [] pos) (eMake T L i C aNil) := by
  subst hc
  obtain ⟨Ca, g0, g1, g2, g3, g4⟩ := MC.at_
  refine ⟨mono_make (qa_nil (X := X) (cl := cl) (W := W)).mono, ⟨fun pins s1 σ H1 Q I1 h => ?_⟩⟩
  obtain ⟨s, m1, hs, hm1, z⟩ := h
  refine wpAny_Call_Name_kw (ld_glob I1 hg g2 ?_ hdb)
  obtain ⟨S, t, al, h1, h2, h3, h4⟩ := z (s1.heap.objs.size + 1) (hm1.free (I1.hok.fresh (Nat.le_succ _)))
  obtain ⟨L', rfl⟩ : ∃ L', L = L' + 1 := ⟨L - 1, by omega⟩
  obtain ⟨fd, ps, F, hb⟩ := (g4 L' (Nat.lt_succ_self _)).fn S t
  refine PySem.W.callWith_K0 I1.kIn g3.kp (run_makeAt (us := []) (vs := []) g3 F hr hb (passAt tk σ) I1 .nil fun x dx ex nx ndx ne => ?_)
  subst ex
  have e2 : Ext H1 (upd H1 dx (.own (s1.heap.objs.size + 1))) := Ext.new ndx
  have nx2 : (upd H1 dx (.own (s1.heap.objs.size + 1))) (s1.heap.objs.size + 1) = none := by rw [upd_ne (Ne.symm ne)]; exact nx
  have e3 : Ext (upd H1 dx (.own (s1.heap.objs.size + 1))) (upd (upd H1 dx (.own (s1.heap.objs.size + 1))) (s1.heap.objs.size + 1) (.ins Ca dx [])) := Ext.new nx2
  have hm3 := (hm1.hid (u := .own (s1.heap.objs.size + 1)) ndx).new (o := .ins C []) (u := .ins Ca dx []) nx2 ⟨Ca, dx, [], ⟨g0, g1⟩, upd_same, rfl⟩
  have e13 := e2.trans e3
  refine ⟨[.ref (s1.heap.objs.size + 1)], _, al, ⟨_, _, rfl, rfl, rfl⟩, hm3, h1, h2, fun d m' y v H' rv hm' e' => ?_, fun x m' y c dd H' a b e => h4 x m' y c dd H' a b (e13.trans e)⟩
  obtain ⟨y1, y2⟩ := h3 d m' y
  subst y1
  exact ⟨rv, y2 _ H' rfl hm' (e13.trans e')⟩
end
end PV

/-! Dicts walked under a lock; get, clear, sorted. -/
namespace PV
open PySem L2 PyProof.Rows
/-! ### unlocking: what is read of tuples stays -/
def SqM (K : PySem.W.Frag) (H H' : Hp) : Prop := ∀ a xs, SqT K H a xs → SqT K H' a xs
mutual
theorem Rep.monoQ {K : PySem.W.Frag} {H H' : Hp} (e : SqM K H H') : ∀ {d : D} {v : V}, Rep K H d v → Rep K H' d v
  | .non, _, h => h
  | .bl _, _, h => h
  | .int _, _, h => h
  | .str _, _, h => h
  | .tup l, _, h => by
    obtain ⟨a, vs, e1, e2, e3⟩ := h
    exact ⟨a, vs, e1, e a vs e2, Reps.monoQ e e3⟩
  | .ref _, _, h => h
  | .ty _, _, h => h
theorem Reps.monoQ {K : PySem.W.Frag} {H H' : Hp} (e : SqM K H H') : ∀ {ds : List D} {vs : List V}, Reps K H ds vs → Reps K H' ds vs
  | [], _, h => h
  | d :: ds, _, h => by
    obtain ⟨v, r, e1, e2, e3⟩ := h
    exact ⟨v, r, e1, Rep.monoQ e e2, Reps.monoQ e e3⟩
end
theorem RepK.monoQ {κ : Type} {K : PySem.W.Frag} {H H' : Hp} (e : SqM K H H') : ∀ {ds : List (κ × D)} {vs : List (κ × V)}, RepK K H ds vs → RepK K H' ds vs
  | [], _, h => h
  | (k, d) :: ds, _, h => by
    obtain ⟨v, r, e1, e2, e3⟩ := h
    exact ⟨v, r, e1, e2.monoQ e, RepK.monoQ e e3⟩
theorem RepXs.monoQ {K : PySem.W.Frag} {H H' : Hp} (e : SqM K H H') : ∀ {ds : List (D × D)} {xs : List XEn}, RepXs K H ds xs → RepXs K H' ds xs
  | [], _, h => h
  | (k, d) :: ds, _, h => by
    obtain ⟨x, y, r, e1, e2, e3, e4⟩ := h
    exact ⟨x, y, r, e1, e2.monoQ e, e3.monoQ e, RepXs.monoQ e e4⟩
theorem RepO.monoQ {K : PySem.W.Frag} {cl : Cl} {H H' : Hp} {a : Addr} (e : SqM K H H') (ha : H' a = H a) : ∀ {o : O}, RepO K cl H a o → RepO K cl H' a o
  | .lst l, ⟨vs, h1, h2⟩ => ⟨vs, ha.trans h1, h2.monoQ e⟩
  | .rol l, ⟨o, vs, h1, h2⟩ => ⟨o, vs, ha.trans h1, h2.monoQ e⟩
  | .dK _, ⟨vs, h1, h2⟩ => ⟨vs, ha.trans h1, h2.monoQ e⟩
  | .dT _, ⟨vs, h1, h2⟩ => ⟨vs, ha.trans h1, h2.monoQ e⟩
  | .rdK _, ⟨o, vs, h1, h2⟩ => ⟨o, vs, ha.trans h1, h2.monoQ e⟩
  | .dD _, ⟨xs, h1, h2⟩ => ⟨xs, ha.trans h1, h2.monoQ e⟩
  | .ins _ _, ⟨Ca, dx, vs, h0, h1, h2⟩ => ⟨Ca, dx, vs, h0, ha.trans h1, h2.monoQ e⟩
  | .xd _, ⟨vs, h1, h2⟩ => ⟨vs, ha.trans h1, h2.monoQ e⟩
  | .exc _ _, ⟨Ca, hn, h0, h1⟩ => ⟨Ca, hn, h0, ha.trans h1⟩
theorem RepS.monoQ {K : PySem.W.Frag} {H H' : Hp} {s : S3} {σ : L2.St} (e : SqM K H H') (h : RepS K H s σ) : RepS K H' s σ := ⟨h.1, fun i d q => let ⟨v, h1, h2⟩ := h.2 i d q; ⟨v, h1, h2.monoQ e⟩⟩
section
variable {K : PySem.W.Frag} {cl : Cl} {H H' : Hp} {m : Mp} {d : Addr} {od : Obj} {kvs : List (Key × D)} {kws : List (Key × V)}
theorem sqm_unlock (h : H' d = some (.frz od (.dK kws))) : SqM K H' (upd H' d (.dK kws)) := fun a xs z => by
  rcases z with (z | ⟨o, z⟩) | z
  · exact .inl (.inl (by rw [upd_ne (fun e => by rw [e, h] at z; cases z)]; exact z))
  · exact .inl (.inr ⟨o, by rw [upd_ne (fun e => by rw [e, h] at z; cases z)]; exact z⟩)
  · exact .inr z
theorem ext_unlock (h0 : H d = some (.dK kws)) (e : Ext (upd H d (.frz od (.dK kws))) H') : Ext H (upd H' d (.dK kws)) :=
  ⟨fun a xs z => by
    have ne : a ≠ d := fun q => by rw [q, h0] at z; cases z
    rw [upd_ne ne]; exact e.1 a xs (by rw [upd_ne ne]; exact z),
   fun a o u z => by
    have ne : a ≠ d := fun q => by rw [q, h0] at z; cases z
    rw [upd_ne ne]; exact e.2 a o u (by rw [upd_ne ne]; exact z)⟩
theorem ab_unlock (hm : Ab K cl H' m) (h : H' d = some (.frz od (.dK kws))) (hd : m d = some (.rdK kvs)) : Ab K cl (upd H' d (.dK kws)) (mset m d (.dK kvs)) := ⟨fun a x q => by
  have sq : SqM K H' (upd H' d (.dK kws)) := sqm_unlock h
  by_cases e : a = d
  · subst e
    rw [mset_same] at q
    cases q
    obtain ⟨o, ws, q1, q2⟩ := hm.1 a _ hd
    rw [h] at q1
    cases q1
    exact ⟨kws, upd_same, q2.monoQ sq⟩
  · rw [mset_ne e] at q
    exact (hm.1 a x q).monoQ sq (upd_ne e), hm.2⟩
end
/-- a statement, with a dict locked or not -/
def sLk (t : TS3) : TS3 := fun D s m => t D s m ∨ ∃ d kvs, m d = some (.dK kvs) ∧
  t ⟨fun s' m' => m' d = some (.rdK kvs) ∧ D.nx s' (mset m' d (.dK kvs)), fun v m' => m' d = some (.rdK kvs) ∧ D.rt v (mset m' d (.dK kvs)), fun s' m' => m' d = some (.rdK kvs) ∧ D.bk s' (mset m' d (.dK kvs)), fun s' m' => m' d = some (.rdK kvs) ∧ D.ct s' (mset m' d (.dK kvs)), D.ex⟩ s (mset m d (.rdK kvs))
section
variable {X : Cx} {cl : Cl} {W : WX} {st : Stmt} {S : TS3} {t t' : TS}
theorem ps_or (h : PS X st t) (h' : PS X st t') : PS X st (fun D σ H => t D σ H ∨ t' D σ H) := ⟨fun pins s σ H D I q => q.elim (h.run pins s σ H D I) (h'.run pins s σ H D I)⟩
theorem qs_lk (h : QS X cl W st S) : QS X cl W st (sLk S) := by
  refine ⟨fun s m D D' l q => ?_, ?_⟩
  · rcases q with q | ⟨d, kvs, hd, q⟩
    · exact .inl (h.mono _ _ _ _ l q)
    · refine .inr ⟨d, kvs, hd, h.mono _ _ _ _ ?_ q⟩
      exact ⟨fun _ _ ⟨a, b⟩ => ⟨a, l.nx _ _ b⟩, fun _ _ ⟨a, b⟩ => ⟨a, l.rt _ _ b⟩, fun _ _ ⟨a, b⟩ => ⟨a, l.bk _ _ b⟩, fun _ _ ⟨a, b⟩ => ⟨a, l.ct _ _ b⟩, l.ex⟩
  · refine PS.imp (ps_or h.run (L2.ps_lock h.run)) fun D σ H ⟨s, m, hs, hm, q⟩ => ?_
    rcases q with q | ⟨d, kvs, hd, q⟩
    · exact .inl ⟨s, m, hs, hm, q⟩
    · obtain ⟨kws, e, rk⟩ := hm.1 d _ hd
      refine .inr ⟨d, _, e, trivial, fun od => ?_⟩
      have ex : Ext H (upd H d (.frz od (.dK kws))) := ext_dK e
      have up : ∀ {H' : Hp}, Ext (upd H d (.frz od (.dK kws))) H' → H' d = some (.frz od (.dK kws)) := fun e' => e'.2 _ _ _ upd_same
      refine ⟨s, _, hs.mono ex, hm.put ex (o := .rdK kvs) ⟨od, kws, upd_same, rk.mono ex⟩, h.mono _ _ _ _ ⟨?_, ?_, ?_, ?_, ?_⟩ q⟩
      · exact fun s' m' ⟨a, b⟩ σ' H' hs' hm' e' => ⟨up e', b σ' _ (hs'.monoQ (sqm_unlock (up e'))) (ab_unlock hm' (up e') a) (ext_unlock e e')⟩
      · exact fun v m' ⟨a, b⟩ v' H' hv' hm' e' => ⟨up e', b v' _ (hv'.monoQ (sqm_unlock (up e'))) (ab_unlock hm' (up e') a) (ext_unlock e e')⟩
      · exact fun s' m' ⟨a, b⟩ σ' H' hs' hm' e' => ⟨up e', b σ' _ (hs'.monoQ (sqm_unlock (up e'))) (ab_unlock hm' (up e') a) (ext_unlock e e')⟩
      · exact fun s' m' ⟨a, b⟩ σ' H' hs' hm' e' => ⟨up e', b σ' _ (hs'.monoQ (sqm_unlock (up e'))) (ab_unlock hm' (up e') a) (ext_unlock e e')⟩
      · exact (cN_ext ex).ex
/-! ### d.get(k), d.get(k, x) -/
def fGet (o : D) (ds : List D) (m : Mp) (k : K3) : Prop := ∃ p y w, o = .ref p ∧ DG m p y w ∧ ((ds = [y] ∧ k (w.getD .non) m) ∨ ∃ z, ds = [y, z] ∧ k (w.getD z) m)
def rGet : V → List V → Hp → VK → Prop := fun x vs H Q => ∃ a y w, x = .ref a ∧ DGet H a y w ∧ ((vs = [y] ∧ Q (w.getD .non) H) ∨ ∃ z, vs = [y, z] ∧ Q (w.getD z) H)
theorem mt_get (hu : X.A.units + 64 + 2 < cLine) : MtR X "dict.get" rGet := by
  intro pins s σ H x vs v us Q I rx rv ⟨a, y, w, ex, g, h⟩
  subst ex
  cases rx
  rcases h with ⟨rfl, q⟩ | ⟨z, rfl, q⟩
  · obtain ⟨u, rfl, ru⟩ := vals1 rv
    exact d_get1 (by omega) I g ru fun w' s' I' r' => ⟨_, H, I', r', q⟩
  · obtain ⟨u, u', rfl, ru, ru'⟩ := vals2 rv
    exact d_get2 (by omega) I g ru ru' fun w' s' I' r' => ⟨_, H, I', r', q⟩
theorem up_get : UpM X cl fGet rGet := fun H m o v ds vs Q r1 r2 hm ⟨p, y, w, e1, g, h⟩ => by
  subst e1
  have r' : v = .ref p := r1
  subst r'
  rcases h with ⟨rfl, q⟩ | ⟨z, rfl, q⟩
  · obtain ⟨u, rfl, ru⟩ := reps1 r2
    obtain ⟨ov, g', e⟩ := g.up hm ru
    refine ⟨p, u, ov, rfl, g', .inl ⟨rfl, ?_⟩⟩
    rcases e with ⟨rfl, rfl⟩ | ⟨d, w', rfl, rfl, rr⟩
    · exact q _ _ rfl hm (Ext.refl H)
    · exact q _ _ rr hm (Ext.refl H)
  · obtain ⟨u, u', rfl, ru, ru'⟩ := reps2 r2
    obtain ⟨ov, g', e⟩ := g.up hm ru
    refine ⟨p, u, ov, rfl, g', .inr ⟨u', rfl, ?_⟩⟩
    rcases e with ⟨rfl, rfl⟩ | ⟨d, w', rfl, rfl, rr⟩
    · exact q _ _ ru' hm (Ext.refl H)
    · exact q _ _ rr hm (Ext.refl H)
theorem mono_get : MonoM fGet := fun o ds m k k' hk ⟨p, y, w, e1, g, h⟩ => ⟨p, y, w, e1, g, h.elim (fun ⟨a, b⟩ => .inl ⟨a, hk _ _ b⟩) fun ⟨z, a, b⟩ => .inr ⟨z, a, hk _ _ b⟩⟩
/-! ### l.clear() -/
def fClear (o : D) (ds : List D) (m : Mp) (k : K3) : Prop := ∃ q l, o = .ref q ∧ ds = [] ∧ m q = some (.lst l) ∧ k .non (mset m q (.lst []))
theorem up_clear : UpM X cl fClear rClear := fun H m o v ds vs Q r1 r2 hm ⟨q, l, e1, e2, h1, h2⟩ => by
  subst e1 e2
  have r' : v = .ref q := r1
  subst r'
  cases r2
  obtain ⟨us, q1, q2⟩ := hm.1 q _ h1
  exact ⟨q, us, rfl, rfl, q1, h2 _ _ rfl (put_lst hm q1 rfl) (ext_lst q1)⟩
theorem mono_clear : MonoM fClear := fun o ds m k k' hk ⟨q, l, e1, e2, h1, h2⟩ => ⟨q, l, e1, e2, h1, hk _ _ h2⟩
/-! ### sorted -/
def rSrtDI : List V → Hp → VK → Prop := fun xs H Q => ∃ (a : Addr) (kvs : List (Key × V)) (ks : List Int), xs = [.ref a] ∧ Rd H a (.dK kvs) ∧ kvs.map (·.1) = ks.map Sum.inl ∧ ks.length ≤ sizeLine ∧
    ∀ (ys : List Int) (p : Addr), ys.Perm ks → ys.Pairwise (· ≤ ·) → H p = none → Q (.ref p) (upd H p (.lst (ys.map V.int)))
/-- the keys of a dict as they stand, all whole numbers -/
theorem ints_keys : ∀ {us : List Value} {kv : List (Key × Value)} {ns : List Int}, kv.map (·.1) = ns.map Sum.inl → us.length = kv.length → (∀ (j : Nat) (v : Value), us[j]? = some v → ∃ k x, kv[j]? = some (k, x) ∧ keyIs k v = true) → IntsAre us ns
  | [], [], [], _, _, _ => .nil
  | [], [], _ :: _, e, _, _ => nomatch e
  | [], _ :: _, _, _, l, _ => nomatch l
  | _ :: _, [], _, _, l, _ => nomatch l
  | _ :: _, _ :: _, [], e, _, _ => nomatch e
  | u :: us, (c, y) :: kv, n :: ns, e, l, at_ => by
    obtain ⟨rfl, rest⟩ := List.cons.inj e
    obtain ⟨k, x, e1, e2⟩ := at_ 0 u rfl
    cases e1
    obtain ⟨t, rfl⟩ := Value.isInt_shape e2
    exact .cons n t (ints_keys rest (Nat.succ.inj l) fun j v => at_ (j + 1) v)
/-- l.sort() of whole numbers: they stand in order, and nothing else is moved -/
theorem sort_ints {prog : Program} {w : World} {A : Around} {E : Value → Shared → Prop} {s : Shared} {p : Addr} {us : List Value} {ns : List Int} {Q : Value → Shared → Prop} (k : IntsAre us ns) (z : ns.length ≤ sizeLine) (g : s.heap.get? p = some (seqObj "list" us.toArray 0))
    (q : ∀ (h' : Heap) (out : List Value) (ys : List Int) (e : Nat), IntsAre out ys → ys.Perm ns → ys.Pairwise (· ≤ ·) → h'.get? p = some (seqObj "list" out.toArray e) → (∀ b, b < s.heap.objs.size → b ≠ p → h'.get? b = s.heap.get? b) → Q .none { s with heap := h' }) :
    wpAny (model prog w) A (call (.builtin "list.sort") [.ref p]) Q E s := by
  have lim : us.length ≤ sizeLine := k.length ▸ z
  refine wpAny_call_entry PyProof.Rows.slot_list_sort ⟨_, g, rfl⟩ PyProof.Rows.entry_list_sort ?_ (PyProof.Rows.args_list_sort _)
  refine SrtO.list_sort_ord SrtO.swo_int g lim (SrtO.ints_sortable k) fun out o1 o2 => ?_
  obtain ⟨e, ge⟩ := PyProof.Rows.sortedHeap_at (out := out.toArray) g
  obtain ⟨a, b, c⟩ := SrtO.ints_out k o1 o2
  exact ⟨.none, rfl, q _ out _ e a b c ge fun y lt ne => PyProof.Rows.sortedHeap_old ne lt⟩
/-- sorted(d), whole numbers, any number of them -/
theorem cr_srtDI (hc : X.calm = true) : CallR X (.builtin "sorted") rSrtDI := by
  rintro pins s σ H _ us Q I r ⟨a, kvs, ks, rfl, hd, keys, lim, wish⟩
  obtain ⟨-, lo, vs, pairs, dict⟩ := dk_rd I.hok hd
  obtain ⟨ep, at_⟩ := dict.dictAt
  obtain ⟨_, rfl, rfl⟩ := vals1 r
  have k2 : vs.map (·.1) = ks.map Sum.inl := pairs.keys ▸ keys
  have many : vs.length = ks.length := by rw [← List.length_map (f := (·.1)) (as := vs), k2, List.length_map]
  refine Calls.call_function_entry PyProof.Rows.kind_sorted PyProof.Rows.plain_sorted PyProof.Rows.entry_sorted (PyProof.Rows.args_sorted1 _) ?_
  show wpAny _ _ (checkCount "sorted" 1 1 1 >>= fun _ => _) _ _ _
  refine wpAny_bind (wpAny_pure (wpAny_bind (PySem.W.kdu_collect (PySem.W.kdl_dict (knd := mixKind X.prog X.w) (kvs := vs) (ep := ep) lo) (I.ok.hd hc) at_ (many ▸ lim) fun h1 tk acc up told => ?_)))
  have k : IntsAre acc.toList ks := ints_keys k2 (Array.length_toList.trans told.1) fun j v e => told.2 j v (Array.getElem?_toList ▸ e)
  have J : Inv X pins σ H { s with heap := h1, toks := tk } := I.kept up
  refine wpAny_bind (wpAny_newList ?_ (k.length ▸ lim))
  refine wpAny_bind (wpAny_holding (sort_ints k lim (Heap.get?_push_size _ rfl) fun h2 out ys e a b c g old => wpAny_pure ?_))
  have stay : ∀ y o, h1.get? y = some o → h2.get? y = some o := fun y o e => by
    have lt : y < h1.objs.size := Heap.lt_size e
    exact ((old y (by rw [size_push']; exact Nat.lt_succ_of_lt lt) (Nat.ne_of_lt lt)).trans (Heap.get?_push_of_some _ e))
  have new : ObjOk X.prog X.w (upd H h1.objs.size (.lst (ys.map V.int))) h2 h1.objs.size (.lst (ys.map V.int)) := ⟨by rw [List.length_map, b.length_eq]; exact lim, out, e, vals_of_ints a, g⟩
  exact ⟨_, rfl, .ref h1.objs.size, _, J.laid (t' := tk) stay (Nat.le_refl _) new, rfl, wish ys _ b c (J.hok.fresh (Nat.le_refl _))⟩
def fSorted (ds : List D) (m : Mp) (k : K3) : Prop := ∃ p, ds = [.ref p] ∧ ∃ ns : List Int, (RL m p (ns.map D.int) ∨ ∃ kvs : List (Key × D), (m p = some (.dK kvs) ∨ m p = some (.rdK kvs)) ∧ kvs.map (·.1) = ns.map Sum.inl ∧ ns.length ≤ sizeLine) ∧
  ∀ (ys : List Int) (q : Addr), ys.Perm ns → ys.Pairwise (· ≤ ·) → m q = none → k (.ref q) (mset m q (.lst (ys.map D.int)))
theorem reps_int {K : PySem.W.Frag} {H : Hp} : ∀ {ns : List Int}, Reps K H (ns.map D.int) (ns.map V.int)
  | [] => rfl
  | n :: ns => ⟨.int n, _, rfl, rfl, reps_int⟩
theorem q_sorted {p : Pos} {a : Expr} {rest : List Expr} {R : TA3} {pos : Pos} (hc : X.calm = true) (hg : Gl X "sorted") (hm : X.mg "sorted" = none) (ha : QA X cl W (a :: rest) R) (he : starEach (a :: rest) X.env = (false, eval a X.env) :: starEach rest X.env) (hpl : (backTo pos (starEach rest X.env)).any (·.1) = false) :
    QE X cl W (.Call (.Name "sorted" p) (a :: rest) [] pos) (eCB fSorted R) :=
  q_cb (r := fun vs H Q => rSortedI X.K vs H Q ∨ rSrtDI vs H Q) (fun pins s σ H xs us Q I r q => q.elim (cr_sortedI pins s σ H xs us Q I r) (cr_srtDI hc pins s σ H xs us Q I r)) (fun H m ds vs Q r hm ⟨p, e, ns, h1, h2⟩ => by
    subst e
    obtain ⟨v, rfl, rv⟩ := reps1 r
    cases rv
    rcases h1 with h1 | ⟨kvs, h1, h3, h4⟩
    · obtain ⟨ws, q1, q2⟩ := hm.rl h1
      have e := q2.ints
      subst e
      exact .inl ⟨p, ns, rfl, q1, fun ys q g1 g2 g3 => h2 ys q g1 g2 (hm.free g3) _ _ rfl (new_lst hm g3 reps_int) (Ext.new g3)⟩
    · rcases h1 with h1 | h1
      · obtain ⟨kws, q1, q2⟩ := hm.1 p _ h1
        exact .inr ⟨p, kws, ns, rfl, .inl q1, (repk_at q2).trans h3, h4, fun ys q g1 g2 g3 => h2 ys q g1 g2 (hm.free g3) _ _ rfl (new_lst hm g3 reps_int) (Ext.new g3)⟩
      · obtain ⟨o, kws, q1, q2⟩ := hm.1 p _ h1
        exact .inr ⟨p, kws, ns, rfl, .inr ⟨o, q1⟩, (repk_at q2).trans h3, h4, fun ys q g1 g2 g3 => h2 ys q g1 g2 (hm.free g3) _ _ rfl (new_lst hm g3 reps_int) (Ext.new g3)⟩)
    (fun ds m k k' hk ⟨p, e, ns, h1, h2⟩ => ⟨p, e, ns, h1, fun ys q g1 g2 g3 => hk _ _ (h2 ys q g1 g2 g3)⟩) (by decide +kernel) (by decide) (by decide) hg hm ha he hpl
end
end PV

/-! Steps for classes; what the top says of them. -/
namespace PV
open PySem L2 PyProof.Rows
section
variable {A B O V : TE3} {R : TA3} {s : S3} {m : Mp} {k : K3} {x : X3} {p : Addr} {f C : String} {fs : List (Str × D)} {v d : D} {T : Tb} {L i : Nat} {M : MT} {mt : String} {nx bk ct : S3 → Mp → Prop} {rt : K3} {ex : S3 → X3}
theorem x_fld {f : Str} (h : A s m (fun d m1 => ∃ a C fs v, d = .ref a ∧ m1 a = some (.ins C fs) ∧ fs.lookup f = some v ∧ k v m1) x) : eFld f A s m k x := h
theorem xf_fld {f : Str} {Z : D → Prop} (h1 : m p = some (.ins C fs)) (h2 : fs.lookup f = some v) (h : Z v) : ∃ a C fs v, D.ref p = .ref a ∧ m a = some (.ins C fs) ∧ fs.lookup f = some v ∧ Z v := ⟨p, C, fs, v, rfl, h1, h2, h⟩
theorem x_fldS {f : Str} (h : V s m (fun v m1 => O s m1 (fun o m2 => ∃ a C fs, o = .ref a ∧ m2 a = some (.ins C fs) ∧ fs.length < 1000 ∧ nx s (mset m2 a (.ins C (putFD f v fs)))) (ex s)) (ex s)) : sFldS f O V ⟨nx, rt, bk, ct, ex⟩ s m := h
theorem xf_fldS {Z : Addr → String → List (Str × D) → Prop} (h1 : m p = some (.ins C fs)) (h2 : fs.length < 1000) (h : Z p C fs) : ∃ a C fs, D.ref p = .ref a ∧ m a = some (.ins C fs) ∧ fs.length < 1000 ∧ Z a C fs := ⟨p, C, fs, rfl, h1, h2, h⟩
theorem x_meth (h : A s m (fun o m1 => ∃ a C fs i, o = .ref a ∧ m1 a = some (.ins C fs) ∧ fs.lookup (Str.ofString mt) = none ∧ M C mt = some i ∧ R s m1 (fun ds m2 => callS T L i (.ref a :: ds) m2 k x) x) x) : eMeth T L M mt A R s m k x := h
theorem xf_meth {f : Str} {Z : Addr → Nat → Prop} (h1 : m p = some (.ins C fs)) (h2 : fs.lookup f = none) (h3 : M C mt = some i) (h : Z p i) : ∃ a C fs i, D.ref p = .ref a ∧ m a = some (.ins C fs) ∧ fs.lookup f = none ∧ M C mt = some i ∧ Z a i := ⟨p, C, fs, i, rfl, h1, h2, h3, h⟩
theorem x_make (h : R s m (fun ds m1 => ∀ a, m1 a = none → callS T (L - 1) i (.ref a :: ds) (mset m1 a (.ins C [])) (fun d m2 => d = .non ∧ k (.ref a) m2) x) x) : eMake T L i C R s m k x := h
theorem x_lk0 {t : TS3} {D : N3} (h : t D s m) : sLk t D s m := .inl h
theorem x_lk {t : TS3} {d : Addr} {kvs : List (Key × PV.D)} (h1 : m d = some (.dK kvs))
    (h : t ⟨fun s' m' => m' d = some (.rdK kvs) ∧ nx s' (mset m' d (.dK kvs)), fun v m' => m' d = some (.rdK kvs) ∧ rt v (mset m' d (.dK kvs)), fun s' m' => m' d = some (.rdK kvs) ∧ bk s' (mset m' d (.dK kvs)), fun s' m' => m' d = some (.rdK kvs) ∧ ct s' (mset m' d (.dK kvs)), ex⟩ s (mset m d (.rdK kvs))) :
    sLk t ⟨nx, rt, bk, ct, ex⟩ s m := .inr ⟨d, kvs, h1, h⟩
theorem xf_get1 {kvs : List (Key × D)} {y : Key} (h1 : m p = some (.dK kvs) ∨ m p = some (.rdK kvs)) (h : k ((getD kvs y).getD .non) m) : fGet (.ref p) [keyD y] m k := ⟨p, _, _, rfl, ⟨kvs, y, h1, rfl, rfl⟩, .inl ⟨rfl, h⟩⟩
theorem xf_get2 {kvs : List (Key × D)} {y : Key} (h1 : m p = some (.dK kvs) ∨ m p = some (.rdK kvs)) (h : k ((getD kvs y).getD d) m) : fGet (.ref p) [keyD y, d] m k := ⟨p, _, _, rfl, ⟨kvs, y, h1, rfl, rfl⟩, .inr ⟨d, rfl, h⟩⟩
theorem x_tyK {Z : Prop} {kvs : List (Key × D)} (h0 : m p = some (.dK kvs)) (h : Z) : tyD "dict" (.ref p) m ∧ Z := ⟨.inr (.inr ⟨rfl, p, rfl, .inl ⟨kvs, h0⟩⟩), h⟩
theorem xf_clear {l : List D} (h1 : m p = some (.lst l)) (h : k .non (mset m p (.lst []))) : fClear (.ref p) [] m k := ⟨p, l, rfl, rfl, h1, h⟩
theorem xf_sortL {ns : List Int} (h1 : RL m p (ns.map D.int)) (h : ∀ (ys : List Int) (q : Addr), ys.Perm ns → ys.Pairwise (· ≤ ·) → m q = none → k (.ref q) (mset m q (.lst (ys.map D.int)))) : fSorted [.ref p] m k := ⟨p, rfl, ns, .inl h1, h⟩
theorem xf_sortD {kvs : List (Key × D)} {ns : List Int} (h1 : m p = some (.dK kvs) ∨ m p = some (.rdK kvs)) (h2 : kvs.map (·.1) = ns.map Sum.inl) (h3 : ns.length ≤ 100000)
    (h : ∀ (ys : List Int) (q : Addr), ys.Perm ns → ys.Pairwise (· ≤ ·) → m q = none → k (.ref q) (mset m q (.lst (ys.map D.int)))) : fSorted [.ref p] m k := ⟨p, rfl, ns, .inr ⟨kvs, h1, h2, Nat.le_trans h3 (by decide)⟩, h⟩
end
/-! ### what the top says of the classes -/
section
variable {P : Program} {w : World} {K : PySem.W.Frag} {mg : Str → Option Value} {base : Heap} {cl : Cl} {T : Tb} {L i : Nat} {lE lC : List (String × Addr)} {C m : String} {fa Ca : Addr}
theorem clOf_memE {w : World} {n : String} {a : Addr} (hC : ∀ p ∈ lC, p.1 ∉ eNames) (hn : n ∈ eNames) (h : clOf w (lE ++ lC) n = some a) : (n, a) ∈ lE :=
  (List.mem_append.mp (clOf_mem h)).elim id fun e => absurd hn (hC _ e)
theorem clOf_memC {w : World} {n : String} {a : Addr} (hE : ∀ p ∈ lE, p.1 ∈ eNames) (hn : n ∉ eNames) (h : clOf w (lE ++ lC) n = some a) : (n, a) ∈ lC :=
  (List.mem_append.mp (clOf_mem h)).elim (fun e => absurd (hE _ e) hn) id
theorem clk_mk {w : World} {fl : List Str} (hE : ∀ p ∈ lE, p.1 ∈ eNames) (hc : ∀ p ∈ lC, Cls K p.2) (hf : ∀ p ∈ lC, ∀ f ∈ fl, NoAttr K p.2 f) : ClK K (clOf w (lE ++ lC)) fl :=
  ⟨fun C a hn h => hc _ (clOf_memC hE hn h), fun C a f hn h hm => hf _ (clOf_memC hE hn h) f hm⟩
theorem mts_mk {M : MT} {ns : List String} (hE : ∀ p ∈ lE, p.1 ∈ eNames)
    (h : ∀ p ∈ lC, ∀ m ∈ ns, ∀ i, M p.1 m = some i → ∃ fa, PySem.W.findIn K (.ref p.2) (Str.ofString m) = some (some (.ref fa)) ∧ KnM P w K mg base (clOf w (lE ++ lC)) T L i fa) : Mts P w K mg base (clOf w (lE ++ lC)) T L M ns :=
  ⟨fun C a hn hc m hm i e => h _ (clOf_memC hE hn hc) m hm i e⟩
theorem knm_mk {tab : Nat → FSpec} {x qual : Str} {st : Stmt} {fd : FuncData} {ps : List Str} (F : Fun K x qual st fa fd) (hi : PySem.W.isFn K (.ref fa) = true) (hb : Binds K fd ps [])
    (ok : FnOk P w K mg base (L2.CX P w) L fa fd ps (liftSp K cl (tab i) L)) : KnM P w K mg base cl (fun i S => S = tab i) L i fa :=
  ⟨F.kp, hi, fun S e => by subst e; exact ⟨fd, ps, ok, hb⟩⟩
theorem mkC0 (h0 : C ∉ eNames) (h1 : cl C = some Ca) (h2 : mg (Str.ofString C) = some (.ref Ca)) (h3 : Mk K Ca fa) : MkC P w K mg base cl T 0 C i fa := ⟨Ca, h0, h1, h2, h3, fun j h => absurd h (Nat.not_lt_zero j)⟩
theorem mkC1 (h : MkC P w K mg base cl T L C i fa) (k : KnM P w K mg base cl T L i fa) : MkC P w K mg base cl T (L + 1) C i fa :=
  let ⟨Ca, h0, h1, h2, h3, h4⟩ := h.at_
  ⟨Ca, h0, h1, h2, h3, fun j hj => (Nat.lt_or_ge j L).elim (h4 j) fun g => by
    have e : j = L := Nat.le_antisymm (Nat.lt_succ_iff.mp hj) g
    subst e; exact k⟩
theorem cmt_mk {mc : Value} (h1 : mg (Str.ofString C) = some (.ref Ca)) (h2 : PySem.W.readsIn K Ca mc = true) (h3 : PySem.W.specialIn K (.ref Ca) "__getattribute__" = some (some (.builtin "type.__getattribute__")))
    (h4 : PySem.W.findCls K (.ref Ca) mc (Str.ofString m) = some (.val (.ref fa))) (h5 : PySem.W.handedIn (.ref fa) = true) (k : KnM P w K mg base cl T L i fa) : CMt P w K mg base cl T L C m i :=
  ⟨Ca, fa, mc, h1, h2, h3, h4, h5, k⟩
end
end PV

/-! Vaults: their draws, what they hold. -/
namespace PV
open PySem L2 PyProof.Rows
theorem xf_powE {b e : Int} {n : Nat} {m : Mp} {k : K3} (h0 : CPow b n) (he : e = n) (h : k (.int (b ^ n)) m) : fPow (.int b) (.int e) m k := by
  subst he
  exact ⟨b, n, rfl, rfl, h0, h⟩
/-- a row of draws -/
def RowV (row : List D) : Prop := ∃ y w : Int, row = [.int y, .int w] ∧ (w = 0 ∨ (0 ≤ y ∧ y < 999999937))
/-- the keys of a dict by whole numbers -/
def ks : List (Key × D) → List Int
  | [] => []
  | (.inl n, _) :: l => n :: ks l
  | _ :: l => ks l
def AllI (l : List (Key × D)) : Prop := l.map (·.1) = (ks l).map Sum.inl
def srtI (l : List Int) : List Int := l.mergeSort fun a b => decide (a ≤ b)
theorem srtI_perm {l : List Int} : (srtI l).Perm l := List.mergeSort_perm _ _
theorem srtI_sorted {l : List Int} : (srtI l).Pairwise (· ≤ ·) := by
  have h := List.pairwise_mergeSort (le := fun a b : Int => decide (a ≤ b)) (fun a b c h1 h2 => by simp at *; omega) (fun a b => by simp; omega) l
  exact h.imp fun h => by simpa using h
theorem sorted_uniq : ∀ {l r : List Int}, l.Perm r → l.Pairwise (· ≤ ·) → r.Pairwise (· ≤ ·) → l = r
  | [], r, h, _, _ => by rw [List.nil_perm.mp h]
  | a :: l, r, h, h1, h2 => by
    cases r with
    | nil => exact absurd h.length_eq (by simp)
    | cons b r =>
      rw [List.pairwise_cons] at h1 h2
      have ab : a = b := by
        have ha : a ∈ b :: r := h.subset List.mem_cons_self
        have hb : b ∈ a :: l := h.symm.subset List.mem_cons_self
        rcases List.mem_cons.mp ha with e | e
        · exact e
        · rcases List.mem_cons.mp hb with e' | e'
          · exact e'.symm
          · have := h1.1 _ e'; have := h2.1 _ e; omega
      subst ab
      rw [sorted_uniq (List.Perm.cons_inv h) h1.2 h2.2]
theorem srtI_is {l ys : List Int} (h : ys.Perm l) (h1 : ys.Pairwise (· ≤ ·)) : ys = srtI l := sorted_uniq (h.trans srtI_perm.symm) h1 srtI_sorted
theorem ks_len {l : List (Key × D)} (h : AllI l) : (ks l).length = l.length := by simpa using (congrArg List.length h).symm
theorem ks_app {l r : List (Key × D)} : ks (l ++ r) = ks l ++ ks r := by
  induction l with
  | nil => rfl
  | cons p l ih => rcases p with ⟨_ | _, _⟩ <;> simp [ks, ih]
theorem ks_map {l : List (Key × D)} {f : Key × D → Key × D} (hf : ∀ p, (f p).1 = p.1) : ks (l.map f) = ks l := by
  induction l with
  | nil => rfl
  | cons p l ih =>
    rcases hp : f p with ⟨k, d⟩
    have e := hf p
    rw [hp] at e
    rcases p with ⟨_ | _, _⟩ <;> subst e <;> simp [ks, ih, hp]
theorem allI_put {l : List (Key × D)} {n : Int} {d : D} (h : AllI l) : AllI (putD l (.inl n) d) := by
  unfold AllI putD at *
  split
  · rw [ks_map (fun p => by split <;> simp_all), List.map_map, ← h]
    apply List.map_congr_left
    intro p _
    dsimp only [Function.comp]
    split <;> simp_all
  · rw [ks_app, List.map_append, List.map_append, h]; rfl
theorem allI_nil : AllI [] := rfl
/-- a key's worth, if it is there -/
theorem getD_some {κ : Type} [DecidableEq κ] {l : List (κ × D)} {k : κ} (h : k ∈ l.map (·.1)) : ∃ d, getD l k = some d := by
  induction l with
  | nil => cases h
  | cons p l ih =>
    by_cases e : p.1 = k
    · exact ⟨p.2, getD_pos e⟩
    · rw [getD_neg e]
      rcases List.mem_cons.mp h with z | z
      · exact absurd z.symm e
      · exact ih z
theorem ks_get {l : List (Key × D)} {n : Int} (h : AllI l) (hn : n ∈ ks l) : ∃ d, getD l (.inl n) = some d := by
  refine getD_some ?_
  rw [h]
  exact List.mem_map.mpr ⟨n, hn, rfl⟩
/-- the worths, by the numbers given -/
def vl (l : List (Key × D)) (ys : List Int) : List D := ys.map fun n => (getD l (.inl n)).getD .non
/-- what a vault holds -/
structure Vk (l : List (Key × D)) : Prop where
  ai : AllI l
  fine : ∀ n d, getD l (.inl n) = some d → Fine 8 d ∧ d.sz ≤ 3000
theorem vk_nil : Vk [] := ⟨rfl, fun n d h => by rw [getD_nil] at h; cases h⟩
theorem Vk.put {l : List (Key × D)} {n : Int} {d : D} (h : Vk l) (h1 : Fine 8 d) (h2 : d.sz ≤ 3000) : Vk (putD l (.inl n) d) := ⟨allI_put h.ai, fun i e q => by
  rw [getD_put] at q
  split at q
  · cases q; exact ⟨h1, h2⟩
  · exact h.fine i e q⟩
theorem put_put {κ : Type} [DecidableEq κ] {l : List (κ × D)} {k : κ} {v : D} (h : getD l k = some v) : getD (putD l k v) k = some v := by rw [getD_put, if_pos rfl]
theorem xf_neR {n : Nat} {a : D} {m : Mp} {k : K3} (h1 : Fine n a) (hn : n ≤ 64) (h : k (.bl false) m) : fNe a a m k := by
  classical
  exact xf_neF h1 h1 hn (by simpa using h)
theorem eq_list {n : Nat} {l r : List D} {m : Mp} {p q : Addr} (h1 : RL m p l) (h2 : RL m q r) (f1 : ∀ d ∈ l, Fine n d) (f2 : ∀ d ∈ r, Fine n d) (hn : n < 64) :
    DP m (.ref p) (.list (toPs l)) ∧ DP m (.ref q) (.list (toPs r)) ∧ PEq (.list (toPs l)) (.list (toPs r)) ∧ (PyData.eqv (.list (toPs l)) (.list (toPs r)) = true ↔ l = r) := by
  refine ⟨.lst h1 (DPs.of fun d hd => (f1 d hd).dp), .lst h2 (DPs.of fun d hd => (f2 d hd).dp), peq_l ?_, ?_⟩
  · have := depthAll_of fun d hd => (f1 d hd).depth
    show PyData.depthAll (toPs l) + 1 ≤ 64
    omega
  · show PyData.eqv (.list (toPs l)) (.list (toPs r)) = true ↔ _
    simp only [PyData.eqv]
    exact eqvAll_of eqv_iff f1 f2
theorem xf_eqLT {n : Nat} {l : List D} {m : Mp} {k : K3} {p q : Addr} (h1 : RL m p l) (h2 : RL m q l) (f1 : ∀ d ∈ l, Fine n d) (hn : n < 64) (h : k (.bl true) m) : fEq (.ref p) (.ref q) m k := by
  obtain ⟨a, b, c, e⟩ := eq_list h1 h2 f1 f1 hn
  exact ⟨_, _, a, b, c, by rw [e.mpr rfl]; exact h⟩
theorem xf_neLT {n : Nat} {l : List D} {m : Mp} {k : K3} {p q : Addr} (h1 : RL m p l) (h2 : RL m q l) (f1 : ∀ d ∈ l, Fine n d) (hn : n < 64) (h : k (.bl false) m) : fNe (.ref p) (.ref q) m k := by
  obtain ⟨a, b, c, e⟩ := eq_list h1 h2 f1 f1 hn
  exact ⟨_, _, a, b, c, by rw [e.mpr rfl]; exact h⟩
theorem Vk.mem {l : List (Key × D)} {ys : List Int} (h : Vk l) : ∀ d ∈ vl l ys, Fine 8 d := fun d hd => by
  obtain ⟨n, _, rfl⟩ := List.mem_map.mp hd
  cases e : getD l (.inl n) with
  | none => exact Fine.non
  | some w => exact (h.fine n w e).1
theorem any_none {κ : Type} [DecidableEq κ] {l : List (κ × D)} {k : κ} (h : l.any (fun kv => decide (kv.1 = k)) = false) : ∀ p ∈ l, p.1 ≠ k := fun p hp e => by
  have := List.any_eq_false.mp h p hp
  simp [e] at this
/-- put twice -/
theorem put_twice {κ : Type} [DecidableEq κ] {l : List (κ × D)} {k : κ} {v : D} : putD (putD l k v) k v = putD l k v := by
  cases e : l.any (fun kv => decide (kv.1 = k)) with
  | true =>
    have e1 : putD l k v = l.map (fun kv => if kv.1 = k then (kv.1, v) else kv) := by unfold putD; rw [if_pos e]
    have e2 : (putD l k v).any (fun kv => decide (kv.1 = k)) = true := by
      rw [e1, List.any_eq_true]
      obtain ⟨p, hp, hk⟩ := List.any_eq_true.mp e
      have hk : p.1 = k := by simpa using hk
      exact ⟨(p.1, v), List.mem_map.mpr ⟨p, hp, by rw [if_pos hk]⟩, by simpa using hk⟩
    rw [putD, if_pos e2, e1, List.map_map]
    apply List.map_congr_left
    intro p _
    dsimp only [Function.comp]
    by_cases h : p.1 = k <;> simp [h]
  | false =>
    have e1 : putD l k v = l ++ [(k, v)] := by unfold putD; rw [if_neg (by rw [e]; decide)]
    have e2 : (putD l k v).any (fun kv => decide (kv.1 = k)) = true := by rw [e1]; simp
    rw [putD, if_pos e2, e1, List.map_append]
    congr 1
    · refine (List.map_congr_left fun p hp => ?_).trans (List.map_id _)
      rw [if_neg (any_none e p hp)]; rfl
    · simp
/-- like Fine, of any length -/
def FineL : Nat → D → Prop
  | _, .non => True
  | _, .int _ => True
  | _, .str _ => True
  | n + 1, .tup l => ∀ d ∈ l, FineL n d
  | _, _ => False
theorem FineL.le1 {n : Nat} : ∀ {d : D}, FineL n d → FineL (n + 1) d := by
  induction n with
  | zero => intro d h; cases d with
    | tup l => exact h.elim
    | _ => exact h
  | succ n ih => intro d h; cases d with
    | tup l => exact fun e he => ih (h e he)
    | _ => exact h
theorem FineL.le {n k : Nat} {d : D} (h : FineL n d) (e : n ≤ k) : FineL k d := by
  induction e with
  | refl => exact h
  | step _ ih => exact ih.le1
theorem Fine.l {n : Nat} : ∀ {d : D}, Fine n d → FineL n d := by
  induction n with
  | zero => intro d h; cases d with
    | tup l => exact h.elim
    | non => trivial
    | int i => trivial
    | str z => trivial
    | _ => exact h
  | succ n ih => intro d h; cases d with
    | tup l => exact fun e he => ih (h.2 e he)
    | non => trivial
    | int i => trivial
    | str z => trivial
    | _ => exact h
theorem FineL.cases {n : Nat} {d : D} (h : FineL n d) : d = .non ∨ (∃ i, d = .int i) ∨ (∃ z, d = .str z) ∨ ∃ l k, d = .tup l ∧ n = k + 1 ∧ ∀ e ∈ l, FineL k e := by
  cases d with
  | non => exact .inl rfl
  | int i => exact .inr (.inl ⟨i, rfl⟩)
  | str z => exact .inr (.inr (.inl ⟨z, rfl⟩))
  | tup l => cases n with
    | zero => cases h
    | succ k => exact .inr (.inr (.inr ⟨l, k, rfl, rfl, h⟩))
  | _ => cases n <;> cases h
end PV

/-! The exception with fields: made, raised, its fields read. -/
namespace PV
open PySem L2 PyProof.Rows
abbrev f1E : Str := Str.ofString "one"
abbrev f2E : Str := Str.ofString "other"
/-- what the top says of VaultError's own __init__ -/
structure VeF (K : PySem.W.Frag) (a : Addr) (mc : Value) : Prop where
  rd : PySem.W.readsIn K a mc = true
  sp : PySem.W.specialIn K (.ref a) "__getattribute__" = some (some (.builtin "type.__getattribute__"))
  fc : PySem.W.findCls K (.ref a) mc "__init__" = some (.val (.builtin "ValueError.__init__"))
  hd : PySem.W.handedIn (.builtin "ValueError.__init__") = true
section
variable {X : Cx} {cl : Cl} {W : WX} {p p1 p2 pos : Pos} {e : Expr} {es : List Expr} {ta : TA}
/-- ValueError.__init__ called with what is told of the rows behind it -/
theorem ve_with {pins : List (Addr × Obj)} {σ : L2.St} {H : Hp} {s : Shared} {Q : VK} (ha : PA X (e :: es) ta) (hst : starEach (e :: es) X.env = (false, eval e X.env) :: starEach es X.env) (hpl : (backTo pos (starEach es X.env)).any (·.1) = false) (J : Inv X pins σ H s) (h : tVeI X.K ta σ H Q) :
    wpAny (model X.prog X.w) X.A (callWith pos (.builtin "ValueError.__init__") [] (backTo pos (starEach (e :: es) X.env)) []) (EP X pins σ Q) X.xe s := by
  refine PyProof.Rows.callWith_method1 (wpAny_mono (ha.run pos pins s σ H _ J h) ?_ fun _ _ => id) hst hpl
  rintro us s1 ⟨_, H1, I1, r, a, C, ws, rfl, few, T, ea, q⟩
  match us, r with
  | _ :: _, .cons ra rr =>
    cases ra
    exact oinit_ok T I1 ea (by rw [← Paired.length rr, sizeLine_eq]; omega) fun _ I2 => ⟨_, H1, I2, show RelV .non .none from rfl, q⟩
theorem pe_veC {c : Str} {Ca : Addr} {mc : Value} {pl : Sem Bool} (hg : Gl X c) (hdb : (c == ("__debug__" : Str)) = false) (hm : X.mg c = some (.ref Ca)) (V : VeF X.K Ca mc) (ha : PA X (e :: es) ta)
    (ht : eval (.Call (.Attribute (.Name c p1) "__init__" p2) (e :: es) [] pos) X.env = (do let ov ← eval (.Name c p1) X.env; standAt p2.atName; let (f, first) ← holding [ov] (getMethod ov "__init__" pl); callWith pos f first (backTo pos (starEach (e :: es) X.env)) (backToKw pos (keywordEach [] X.env))))
    (hst : starEach (e :: es) X.env = (false, eval e X.env) :: starEach es X.env) (hpl : (backTo pos (starEach es X.env)).any (·.1) = false) :
    PE X (.Call (.Attribute (.Name c p1) "__init__" p2) (e :: es) [] pos) (tVeI X.K ta) :=
  ⟨fun pins s σ H Q I h => PySem.W.methodCall_KW (pl := pl) (ld_glob I hg hm (PySem.W.method_cls I.kIn V.sp (PySem.W.cls_value I.kIn V.rd V.fc V.hd (ve_with ha hst hpl (I.tok _) h))) hdb) ht⟩
/-- what the top says of the class with fields -/
structure CxF (K : PySem.W.Frag) (C : Addr) : Prop where
  ox : OexC K C
  n1 : PySem.W.findIn K (.ref C) f1E = some none
  n2 : PySem.W.findIn K (.ref C) f2E = some none
def fsE (y z : V) : List (Str × V) := [(f2E, z), (f1E, y)]
/-- its __init__ -/
def spCl (K : PySem.W.Frag) : Sp := fun vs H Q _ => ∃ (a C : Addr) (y z : V), vs = [.ref a, y, z] ∧ CxF K C ∧ H a = some (exo a C none) ∧
  ∀ dx, H dx = none → dx ≠ a → Q .non (upd (upd (upd H dx (exd dx [(f1E, y)])) a (exo a C (some dx))) dx (exd dx (fsE y z)))
/-- what is known of its def -/
structure ClI (P : Program) (w : World) (K : PySem.W.Frag) (mg : Str → Option Value) (base : Heap) (cl : Cl) : Prop where
  at_ : ∀ C, cl "Clash" = some C → CxF K C ∧ ∃ fI fd ps, PySem.W.findIn K (.ref C) "__init__" = some (some (.ref fI)) ∧ PySem.W.typeIn K (.ref fI) = some (.type "function") ∧ FnOk P w K mg base (L2.CX P w) 1 fI fd ps (spCl K) ∧ Binds K fd ps []
/-- raise Clash(one, other) -/
def sRsC (L : Nat) (R : TA3) : TS3 := fun D s m => 2 ≤ L ∧ R s m (fun ds m1 => ∃ y z, ds = [y, z] ∧ ∀ dd, m1 dd = none → D.ex s ⟨"Clash", some dd⟩ (mset m1 dd (.xd [(f2E, z), (f1E, y)]))) (D.ex s)
theorem heap_end {H1 : Hp} {a C dx : Addr} {y z : V} (ha : H1 a = none) (hd : dx ≠ a) :
    upd (del (upd (upd (upd (upd H1 a (exo a C none)) dx (exd dx [(f1E, y)])) a (exo a C (some dx))) dx (exd dx (fsE y z))) a) dx (.xd (fsE y z)) = upd H1 dx (.xd (fsE y z)) := by
  funext b
  by_cases h1 : b = dx
  · subst h1; rw [upd_same, upd_same]
  · rw [upd_ne h1, upd_ne h1]
    by_cases h2 : b = a
    · subst h2; rw [del_same, ha]
    · rw [del_ne h2, upd_ne h1, upd_ne h2, upd_ne h1, upd_ne h2]
theorem qs_raiseC {L : Nat} {R : TA3} {c : Str} {p3 : Pos} (EK : ExK X.K X.mg cl) (CI : ClI X.prog X.w X.K X.mg X.base cl) (tk : Takes X W) (hc : X.calm = true) (hcl : ∃ a, cl "Clash" = some a) (hr : Room L X.A) (hx : c = Str.ofString "Clash") (hg : Gl X c) (hdb : (c == ("__debug__" : Str)) = false) (ha : QA X cl W (e :: es) R)
    (hst : starEach (e :: es) X.env = (false, eval e X.env) :: starEach es X.env) (hpl : (backTo p3 (starEach es X.env)).any (·.1) = false) :
    QS X cl W (.Raise (some (.Call (.Name c p) (e :: es) [] p3)) none pos) (sRsC L R) := by
  obtain ⟨C, e1⟩ := hcl
  obtain ⟨CF, fI, fd, ps, i1, i2, i3, i4⟩ := CI.at_ C e1
  have e2 := EK.at_ "Clash" (by decide) C e1
  have hmg : X.mg c = some (.ref C) := by rw [hx]; exact e2
  refine ⟨fun s m D D' le ⟨h2, q⟩ => ⟨h2, ha.mono _ _ _ _ _ _ (fun ds m1 ⟨y, z, h3, h4⟩ => ⟨y, z, h3, fun dd hd => le.ex _ _ _ (h4 dd hd)⟩) (fun _ _ z => le.ex _ _ _ z) q⟩, ⟨fun pins s0 σ H D I h => ?_⟩⟩
  obtain ⟨s, m, hs, hm, h2, q⟩ := h
  refine (L2.ps_raise hc tk (pmk_oex (k := 1) CF.ox i1 i2 i3 (hr.mono h2) i4 .nil (by rintro pins σ H s e s' I z; obtain ⟨_, _, _, _, _, _, _, _, _, _, _, _, z⟩ := z; exact z.elim) hg hmg ha.run hdb hst hpl)).run pins s0 σ H D I ?_
  refine ⟨s, m, hs, hm, ha.mono _ _ _ _ _ _ (fun ds m1 ⟨y, z, h3, h4⟩ vs H1 r1 hm1 ex1 => ?_) (fun _ _ z => ex_cX hs z) q⟩
  subst h3
  obtain ⟨u, v, rfl, ru, rv⟩ := reps2 r1
  refine ⟨by simp, fun a na => ⟨a, C, u, v, rfl, CF, upd_same, fun dx nd ne => ⟨rfl, dx, fsE u v, ?_, upd_same, ?_, ?_⟩⟩⟩
  · rw [upd_ne (Ne.symm ne), upd_same]
  · rw [upd_ne ne] at nd; exact nd
  · rw [upd_ne ne] at nd
    rw [heap_end na ne]
    have en : Ext H1 (upd H1 dx (.xd (fsE u v))) := Ext.new nd
    exact h4 dx (hm1.free nd) σ _ _ _ (hs.mono (ex1.trans en)) ⟨C, show "Clash" ∈ eNames from by decide, e1, rfl, rfl⟩ (hm1.new nd ⟨fsE u v, upd_same, ⟨v, _, rfl, rv.mono en, ⟨u, _, rfl, ru.mono en, rfl⟩⟩⟩) (ex1.trans en)
/-! ### its fields -/
def eXf (f : Str) (A : TE3) : TE3 := fun s m k x => A s m (fun d m1 => ∃ a dd fs v, d = .ref a ∧ m1 a = some (.exc "Clash" (some dd)) ∧ m1 dd = some (.xd fs) ∧ fs.lookup f = some v ∧ k v m1) x
theorem q_xf {A : TE3} {o : Expr} {f : Str} (EK : ExK X.K X.mg cl) (CI : ClI X.prog X.w X.K X.mg X.base cl) (hf : f = f1E ∨ f = f2E) (ha : QE X cl W o A) (hb : attributeBase o f X.env (eval o X.env) = eval o X.env) : QE X cl W (.Attribute o f pos) (eXf f A) := by
  refine ⟨fun s m k k' x x' hk hx q => ha.mono _ _ _ _ _ _ (fun d m1 ⟨a, dd, fs, v, h1, h2, h3, h4, h5⟩ => ⟨a, dd, fs, v, h1, h2, h3, h4, hk _ _ h5⟩) hx q, ⟨fun pins s0 σ H Q I h => ?_⟩⟩
  obtain ⟨s, m, hs, hm, h⟩ := h
  have hO : upE X.K cl W A σ H (fun v H1 => ∃ d m1, Rep X.K H1 d v ∧ Ab X.K cl H1 m1 ∧ Ext H H1 ∧ ∃ a dd fs w, d = .ref a ∧ m1 a = some (.exc "Clash" (some dd)) ∧ m1 dd = some (.xd fs) ∧ fs.lookup f = some w ∧ cE X.K cl H Q w m1) :=
    ⟨s, m, hs, hm, ha.mono _ _ _ _ _ _ (fun d m1 z v H1 r hm1 e1 => ⟨d, m1, r, hm1, e1, z⟩) (fun _ _ z => z) h⟩
  refine attr_of hb (thn (ha.run.run pins s0 σ H _ I hO) fun u s1 ⟨v, H1, I1, rv, d, m1, r, hm1, e1, a, dd, fs, w, hd, h2, h3, h4, h5⟩ => ?_)
  subst hd
  have r' : v = .ref a := r
  subst r'
  obtain rfl : u = Value.ref a := rv
  obtain ⟨Ca, hn, hc, hh⟩ := hm1.1 a _ h2
  obtain ⟨fvs, hx, rk⟩ := hm1.1 dd _ h3
  obtain ⟨w', l', rw'⟩ := repk_lookS rk h4
  have CF := (CI.at_ Ca hc).1
  have T := (EK.ok "Clash" hn Ca hc).xf
  have hno : PySem.W.findIn X.K (.ref Ca) f = some none := by
    rcases hf with rfl | rfl
    · exact CF.n1
    · exact CF.n2
  obtain ⟨od, z, there, reads, rz⟩ := xd_field I1 hx l'
  obtain ⟨oe, g, kind, no, dict⟩ := exo_obj I1 hh
  exact HandSPX.exc_get I1.kIn ⟨g, kind, no, by rw [dict]; exact there⟩ T.ga T.gg T.exC (PySem.W.findObj_own T.hdC hno rfl reads) (handed_of rz) ⟨w', H1, I1.tok _, rz, h5 _ _ rw' hm1 e1⟩
end
section
variable {A : TE3} {R : TA3} {s : S3} {m : Mp} {k : K3} {x : X3} {L : Nat} {nx bk ct : S3 → Mp → Prop} {rt : K3} {ex : S3 → X3}
theorem x_rsC (h0 : 2 ≤ L) (h : R s m (fun ds m1 => ∃ y z, ds = [y, z] ∧ ∀ dd, m1 dd = none → ex s ⟨"Clash", some dd⟩ (mset m1 dd (.xd [(f2E, z), (f1E, y)]))) (ex s)) : sRsC L R ⟨nx, rt, bk, ct, ex⟩ s m := ⟨h0, h⟩
theorem x_xf {f : Str} (h : A s m (fun d m1 => ∃ a dd fs v, d = .ref a ∧ m1 a = some (.exc "Clash" (some dd)) ∧ m1 dd = some (.xd fs) ∧ fs.lookup f = some v ∧ k v m1) x) : eXf f A s m k x := h
theorem xf_xf {f : Str} {Z : D → Prop} {a dd : Addr} {fs : List (Str × D)} {v : D} (h1 : m a = some (.exc "Clash" (some dd))) (h2 : m dd = some (.xd fs)) (h3 : fs.lookup f = some v) (h : Z v) : ∃ a' dd fs v, D.ref a = .ref a' ∧ m a' = some (.exc "Clash" (some dd)) ∧ m dd = some (.xd fs) ∧ fs.lookup f = some v ∧ Z v := ⟨a, dd, fs, v, rfl, h1, h2, h3, h⟩
end
end PV

/-! Displays of dicts. -/
namespace PV
open PySem L2 PyProof.Rows
def tDs : List (TE3 × TE3) → S3 → Mp → (List (D × D) → Mp → Prop) → X3 → Prop
  | [], _, m, k, _ => k [] m
  | (a, b) :: r, s, m, k, x => a s m (fun u m1 => b s m1 (fun v m2 => tDs r s m2 (fun ps m3 => k ((u, v) :: ps) m3) x) x) x
def mergeD (l r : List (Key × D)) : List (Key × D) := r.foldl (fun acc kv => putD acc kv.1 kv.2) l
/-- {k: v, ..} -/
def eDs (T : List (TE3 × TE3)) : TE3 := fun s m k x => ∀ p, m p = none → tDs T s (mset m p (.dK [])) (fun vs m2 => m2 p = some (.dK []) ∧ ∃ kvs : List (Key × D), vs = kvs.map (fun e => (keyD e.1, e.2)) ∧ kvs.length ≤ 15 ∧ k (.ref p) (mset m2 p (.dK (mergeD [] kvs)))) x
inductive QPs (X : Cx) (cl : Cl) (W : WX) : List (Option Expr) → List Expr → List (TE3 × TE3) → Prop
  | nil : QPs X cl W [] [] []
  | cons {k v : Expr} {ks : List (Option Expr)} {vs : List Expr} {A B : TE3} {T : List (TE3 × TE3)} (ha : QE X cl W k A) (hb : QE X cl W v B) (r : QPs X cl W ks vs T) : QPs X cl W (some k :: ks) (v :: vs) ((A, B) :: T)
section
variable {X : Cx} {cl : Cl} {W : WX} {ks : List (Option Expr)} {vs : List Expr} {T : List (TE3 × TE3)} {pos : Pos}
def RepP (K : PySem.W.Frag) (H : Hp) : List (D × D) → List (V × V) → Prop
  | [], qs => qs = []
  | (a, b) :: r, qs => ∃ x y q, qs = (x, y) :: q ∧ Rep K H a x ∧ Rep K H b y ∧ RepP K H r q
theorem tDs_mono (h : QPs X cl W ks vs T) : ∀ {s : S3} {m : Mp} {k k' : List (D × D) → Mp → Prop} {x x' : X3}, (∀ d m, k d m → k' d m) → (∀ e m, x e m → x' e m) → tDs T s m k x → tDs T s m k' x' := by
  induction h with
  | nil => exact fun hk _ h => hk _ _ h
  | cons ha hb r ih => exact fun hk hx h => ha.mono _ _ _ _ _ _ (fun u m1 z => hb.mono _ _ _ _ _ _ (fun v m2 y => ih (fun ps m3 w => hk _ _ w) hx y) hx z) hx h
theorem tDs_up (h : QPs X cl W ks vs T) : ∃ trs, PPs X pos ks vs trs ∧ ∀ (s : S3) (m : Mp) (σ : L2.St) (H : Hp) (Q : List (V × V) → Hp → Prop), RepS X.K H s σ → Ab X.K cl H m →
    tDs T s m (fun ps m1 => ∀ qs H1, RepP X.K H1 ps qs → Ab X.K cl H1 m1 → Ext H H1 → Q qs H1) (cX X.K cl W H σ) → tPairs trs σ H Q := by
  induction h with
  | nil => exact ⟨[], pps_nil, fun s m σ H Q hs hm h => h [] H rfl hm (Ext.refl H)⟩
  | @cons k v ks vs A B T ha hb r ih =>
    obtain ⟨trs, i1, i2⟩ := ih
    refine ⟨_, pps_cons ha.run hb.run i1, fun s m σ H Q hs hm h => ?_⟩
    refine ⟨s, m, hs, hm, ha.mono _ _ _ _ _ _ (fun u m1 z x H1 rx hm1 e1 => ?_) (fun _ _ z => z) h⟩
    refine ⟨s, m1, hs.mono e1, hm1, hb.mono _ _ _ _ _ _ (fun v m2 z y H2 ry hm2 e2 => ?_) (fun _ _ z => cX_ext e1 z) z⟩
    refine i2 s m2 σ H2 _ (hs.mono (e1.trans e2)) hm2 (tDs_mono r (fun ps m3 z qs H3 rq hm3 e3 => ?_) (fun _ _ z => cX_ext (e1.trans e2) z) z)
    exact z _ H3 ⟨x, y, qs, rfl, rx.mono (e2.trans e3), ry.mono e3, rq⟩ hm3 ((e1.trans e2).trans e3)
theorem repk_put {K : PySem.W.Frag} {H : Hp} {k : Key} {d : D} {v : V} (q : Rep K H d v) {kvs : List (Key × D)} {kws : List (Key × V)} (h : RepK K H kvs kws) : RepK K H (putD kvs k d) (putK kws k v) := RepK.put h q
theorem repk_merge {K : PySem.W.Frag} {H : Hp} : ∀ {more : List (Key × D)} {mw : List (Key × V)}, RepK K H more mw → ∀ {l : List (Key × D)} {lw : List (Key × V)}, RepK K H l lw → RepK K H (mergeD l more) (mergeK lw mw)
  | [], _, h, _, _, q => by cases h; exact q
  | (k, d) :: r, _, h, l, lw, q => by
    obtain ⟨v, r', rfl, h2, h3⟩ := h
    exact repk_merge h3 (repk_put h2 q)
theorem repP_keys {K : PySem.W.Frag} {H : Hp} : ∀ {kvs : List (Key × D)} {qs : List (V × V)}, RepP K H (kvs.map fun e => (keyD e.1, e.2)) qs → ∃ kws : List (Key × V), qs = kws.map (fun e => (kV e.1, e.2)) ∧ RepK K H kvs kws ∧ kws.length = kvs.length
  | [], _, h => by cases h; exact ⟨[], rfl, rfl, rfl⟩
  | (k, d) :: r, _, h => by
    obtain ⟨x, y, q, rfl, h1, h2, h3⟩ := h
    obtain ⟨kws, rfl, i2, i3⟩ := repP_keys h3
    have ex := rep_key h1
    subst ex
    exact ⟨(k, y) :: kws, rfl, ⟨y, kws, rfl, h2, i2⟩, by simp [i3]⟩
theorem q_dis (h : QPs X cl W ks vs T) (hall : ks.all (·.isSome) = true) (hl : ks.length = vs.length) (h0 : ks ≠ []) (h15 : ks.length ≤ 15) : QE X cl W (.Dict ks vs pos) (eDs T) := by
  obtain ⟨trs, i1, i2⟩ := tDs_up (pos := pos) h
  refine ⟨fun s m k k' x x' hk hx q p hp => tDs_mono h (fun ps m2 ⟨a, kvs, b, c, d⟩ => ⟨a, kvs, b, c, hk _ _ d⟩) hx (q p hp), PE.imp (pe_disp i1 hall hl h0 h15) fun σ H Q ⟨s, m, hs, hm, q⟩ p hp => ?_⟩
  have en : Ext H (upd H p (.dK [])) := Ext.new hp
  refine i2 s (mset m p (.dK [])) σ _ _ (hs.mono en) (hm.new hp ⟨[], upd_same, rfl⟩) (tDs_mono h (fun ps m2 z qs H1 rq hm1 e1 => ?_) (fun _ _ z => cX_ext en z) (q p (hm.free hp)))
  obtain ⟨a, kvs, rfl, c, d⟩ := z
  obtain ⟨kws, rfl, i3, i4⟩ := repP_keys rq
  obtain ⟨w0, b1, b2⟩ := hm1.1 p _ a
  cases b2
  have ex : Ext H1 (upd H1 p (.dK (mergeK [] kws))) := ext_dK b1
  refine ⟨b1, kws, rfl, by omega, ?_⟩
  exact d _ _ rfl (hm1.put ex ⟨_, upd_same, (repk_merge i3 (l := []) (lw := []) rfl).mono ex⟩) ((en.trans e1).trans ex)
end
section
variable {A B : TE3} {T : List (TE3 × TE3)} {s : S3} {m : Mp} {k : K3} {x : X3}
theorem x_dis (h : ∀ p, m p = none → tDs T s (mset m p (.dK [])) (fun vs m2 => m2 p = some (.dK []) ∧ ∃ kvs : List (Key × D), vs = kvs.map (fun e => (keyD e.1, e.2)) ∧ kvs.length ≤ 15 ∧ k (.ref p) (mset m2 p (.dK (mergeD [] kvs)))) x) : eDs T s m k x := h
theorem x_ds1 {kk : List (D × D) → Mp → Prop} (h : A s m (fun u m1 => B s m1 (fun v m2 => tDs T s m2 (fun ps m3 => kk ((u, v) :: ps) m3) x) x) x) : tDs ((A, B) :: T) s m kk x := h
theorem x_ds0' {kk : List (D × D) → Mp → Prop} (h : kk [] m) : tDs [] s m kk x := h
end
end PV

/-! Many cells that stand at once, each by its place. -/
namespace PV
open PySem L2 PyProof.Rows
abbrev Cs := List (Addr × O)
structure Cells (m : Mp) (cs : Cs) : Prop where
  nd : (cs.map (·.1)).Nodup
  at_ : ∀ p ∈ cs, m p.1 = some p.2
section
variable {m m' : Mp} {cs : Cs} {a b : Addr} {o o' u : O} {ps : List Addr}
theorem Cells.fr (h : Cells m cs) (f : Fr ps m m') (hp : ∀ p ∈ cs, p.1 ∉ ps) : Cells m' cs := ⟨h.nd, fun p q => f.at (hp p q) (h.at_ p q)⟩
theorem Cells.fr0 (h : Cells m cs) (f : Fr [] m m') : Cells m' cs := h.fr f fun _ _ => ni_nil
theorem Cells.get (h : Cells m cs) (i : Nat) (e : cs[i]? = some (a, o)) : m a = some o := h.at_ _ (List.mem_of_getElem? e)
theorem Cells.ne (h : Cells m cs) (i j : Nat) (ei : cs[i]? = some (a, o)) (ej : cs[j]? = some (b, u)) (ij : i ≠ j) : a ≠ b := fun e => by
  have hi : (cs.map (·.1))[i]? = some a := by rw [List.getElem?_map, ei]; rfl
  have hj : (cs.map (·.1))[j]? = some b := by rw [List.getElem?_map, ej]; rfl
  subst e
  have li := (List.getElem?_eq_some_iff.mp hi).1
  exact ij ((List.getElem?_inj li h.nd).mp (hi.trans hj.symm))
theorem Cells.set1 (h : Cells m cs) (i : Nat) (e : cs[i]? = some (a, o)) (f : Fr [a] m m') (h' : m' a = some o') : Cells m' (cs.set i (a, o')) := by
  have hl := (List.getElem?_eq_some_iff.mp e).1
  have hm : (cs.set i (a, o')).map (·.1) = cs.map (·.1) := by
    rw [List.map_set]
    apply List.ext_getElem?
    intro j
    rw [List.getElem?_set]
    split
    · rename_i ij
      subst ij
      rw [List.length_map, if_pos hl, List.getElem?_map, e]; rfl
    · rfl
  refine ⟨by rw [hm]; exact h.nd, fun p hp => ?_⟩
  obtain ⟨j, hj⟩ := List.mem_iff_getElem?.mp hp
  rw [List.getElem?_set] at hj
  split at hj
  · cases hj
    exact h'
  · rename_i ij
    have hne : p.1 ≠ a := Ne.symm (h.ne i j e (show cs[j]? = some (p.1, p.2) from hj) ij)
    exact f.at (ni_cons hne ni_nil) (h.at_ p (List.mem_of_getElem? hj))
theorem Cells.set2 (h : Cells m cs) (i j : Nat) {u' : O} (e : cs[i]? = some (a, o)) (e' : cs[j]? = some (b, u)) (ij : i ≠ j) (f : Fr [a, b] m m') (h1 : m' a = some o') (h2 : m' b = some u') : Cells m' ((cs.set i (a, o')).set j (b, u')) := by
  have ab := h.ne i j e e' ij
  have g1 : Cells (mset m a o') (cs.set i (a, o')) := h.set1 i e (Fr.set (Fr.refl _ _) (Or.inl in_h)) mset_same
  have e2 : (cs.set i (a, o'))[j]? = some (b, u) := by rw [List.getElem?_set_ne ij]; exact e'
  have g2 : Cells (mset (mset m a o') b u') ((cs.set i (a, o')).set j (b, u')) := g1.set1 j e2 (Fr.set (Fr.refl _ _) (Or.inl in_h)) mset_same
  refine ⟨g2.nd, fun p hp => ?_⟩
  have q := g2.at_ p hp
  by_cases pb : p.1 = b
  · rw [pb, mset_same] at q; rw [pb, h2]; exact q
  · rw [mset_ne pb] at q
    by_cases pa : p.1 = a
    · rw [pa, mset_same] at q; rw [pa, h1]; exact q
    · rw [mset_ne pa] at q
      exact f.at (ni_cons pa (ni_cons pb ni_nil)) q
theorem Cells.perm {cs' : Cs} (h : Cells m cs) (p : cs.Perm cs') : Cells m cs' := ⟨(p.map _).nodup_iff.mp h.nd, fun q hq => h.at_ q (p.symm.subset hq)⟩
theorem Cells.push (h : Cells m cs) (n : m a = none) : Cells (mset m a o) ((a, o) :: cs) := by
  refine ⟨?_, fun p hp => ?_⟩
  · rw [List.map_cons, List.nodup_cons]
    refine ⟨fun hm => ?_, h.nd⟩
    obtain ⟨p, hp, e⟩ := List.mem_map.mp hm
    have := h.at_ p hp
    rw [e, n] at this
    cases this
  · rcases List.mem_cons.mp hp with e | e
    · subst e; exact mset_same
    · exact (mset_ne (ne_none (h.at_ p e) n)).trans (h.at_ p e)
end
end PV

/-! list(reversed(a list)). -/
namespace PV
open PySem L2 PyProof.Rows
theorem in_pair {α : Type} {b u v : α} (h : b ∈ [u, v]) : b = u ∨ b = v := by simpa using h
section
variable {prog : Program} {w : World} {A : Around} {E : Value → Shared → Prop} {s : Shared} {it l S : Addr} {i : Int} {items : Array Value}
/-- an iterator from the back tells no size ahead -/
theorem back_hint {Q : Bool → Shared → Prop} (hit : s.heap.IsRevIter it l i) (q : Q false s) : wpAny (model prog w) A (Builtin.List.listLengthHint (.ref it)) Q E s := by
  have kind : s.TypeIs (.ref it) "list_reverseiterator" := hit.typeIs
  have name : splitId "list_reverseiterator.__length_hint__" = some ("list_reverseiterator", "__length_hint__") := by decide +kernel
  have own : wpAny (model prog w) A (isInstance (.ref it) (.type "list_reverseiterator")) (fun b s1 => b = true ∧ s1 = s) E s := wpAny_isInstance (b := true) kind (by rw [isSubtype_type]; kernel_rfl) ⟨rfl, rfl⟩
  unfold Builtin.List.listLengthHint
  refine wpAny_bind (wpAny_specialOf kind RT.nolen_lri (wpAny_bind (wpAny_specialOf kind RT.hint_lri ?_)))
  generalize ef : "list_reverseiterator.__length_hint__" = f at *
  simp only [name]
  refine wpAny_bind (wpAny_mono own (fun b s1 z => ?_) fun _ _ z => z)
  obtain ⟨rfl, rfl⟩ := z
  subst ef
  exact wpAny_pure q
/-- the things of a list from its end -/
abbrev Back (items : Array Value) (j : Nat) (v : Value) : Prop := items[items.size - 1 - j]? = some v
/-- the list S, empty yet, takes all that an iterator over l from its end tells -/
theorem back_fill {R : Result → Shared → Prop} {c : Nat} (hh : A.handled = none) (g : s.heap.get? S = some { cls := .type "list", data := .seq #[] c }) (hit : s.heap.IsRevIter it l ((items.size : Int) - 1)) (hl : s.heap.IsList l items) (apart : l ≠ it ∧ S ≠ it ∧ S ≠ l) (lim : items.size ≤ sizeLine)
    (fin : ∀ (h' : Heap) (tk : Nat) (acc : Array Value) (c' : Nat), (∀ b o, b ≠ S → b ≠ it → s.heap.get? b = some o → h'.get? b = some o) → h'.get? S = some { cls := .type "list", dict := none, data := .seq acc c', slots := #[] } → ItemsOf (Back items) acc items.size → R (.ok (.ret .none)) { s with heap := h', toks := tk }) :
    wpAny (model prog w) A.in1 (Builtin.List.listExtendWith (.ref S) (.ref it) .none) (fun f s' => match f with | .done f => R (.ok f) s' | .again c' => c'.quiet = true ∧ codeAny (model prog w) A c' R s') (fun e s' => R (.error e) s') s := by
  have kind : s.TypeIs (.ref it) "list_reverseiterator" := hit.typeIs
  have walk := (Walks.listRev (prog := prog) (w := w) (A := A.in1) hh it l apart.1 items).toS
  have out : S ∉ [it, l] := fun z => (in_pair z).elim apart.2.1 apart.2.2
  have start : s.heap.IsRevIter it l ((items.size : Int) - 1 - ((0 : Nat) : Int)) ∧ s.heap.IsList l items := ⟨by rw [show (items.size : Int) - 1 - ((0 : Nat) : Int) = (items.size : Int) - 1 by omega]; exact hit, hl⟩
  have two : Builtin.List.listSameRef (.ref S) (.ref it) = false := by simp [Builtin.List.listSameRef, apart.2.1]
  unfold Builtin.List.listExtendWith
  refine wpAny_bind (wpAny_typeOf kind ?_)
  rw [two, if_neg (by decide)]
  refine wpAny_bind (wpAny_pyIter_revIter hit (wpAny_bind (wpAny_holding (back_hint hit ?_))))
  rw [if_neg (by decide)]
  refine wpAny_pure ⟨plainId_quiet F.plain_extend_loop _, ?_⟩
  refine codeAny_extend_loopS walk lim S out .none items.size 0 s #[] c rfl (Nat.zero_le _) ⟨Nat.zero_le _, start⟩ g (ItemsOf.nil _) fun s' acc c' moved full told => ?_
  rw [Moved.eq_with moved]
  exact fin s'.heap s'.toks acc c' (fun b o b1 b2 e => moved.heap b o (fun z => (List.mem_cons.mp z).elim b1 fun z => b2 (List.mem_singleton.mp z)) e) full told
theorem items_none {A : Around} {Q : Array Value → Shared → Prop} {c : Nat} (g : s.heap.get? S = some { cls := .type "list", data := .seq #[] c }) (q : Q #[] s) : wpAny (model prog w) A (Builtin.List.listItems (.ref S)) Q E s := by
  unfold Builtin.List.listItems
  exact wpAny_bind (wpAny_seqItems g rfl (wpAny_pure q))
theorem back_init {R : Result → Shared → Prop} (hh : A.handled = none) (g : s.heap.get? S = some { cls := .type "list", data := .seq #[] }) (hit : s.heap.IsRevIter it l ((items.size : Int) - 1)) (hl : s.heap.IsList l items) (apart : l ≠ it ∧ S ≠ it ∧ S ≠ l) (lim : items.size ≤ sizeLine)
    (fin : ∀ (h' : Heap) (tk : Nat) (acc : Array Value) (c' : Nat), (∀ b o, b ≠ S → b ≠ it → s.heap.get? b = some o → h'.get? b = some o) → h'.get? S = some { cls := .type "list", dict := none, data := .seq acc c', slots := #[] } → ItemsOf (Back items) acc items.size → R (.ok (.ret .none)) { s with heap := h', toks := tk }) :
    wpAny (model prog w) A.in1 (Builtin.«list.__init__» ⟨[.ref S, .ref it], []⟩) (fun f s' => match f with | .done f => R (.ok f) s' | .again c' => c'.quiet = true ∧ codeAny (model prog w) A c' R s') (fun e s' => R (.error e) s') s := by
  have code : Builtin.«list.__init__» ⟨[.ref S, .ref it], []⟩ = (Builtin.List.listItems (.ref S) >>= fun old => updateSeq S (fun _ => #[]) >>= fun _ => letGo old.toList.reverse >>= fun _ => Builtin.List.listExtendWith (.ref S) (.ref it) .none) := rfl
  rw [code]
  refine wpAny_bind (items_none g (wpAny_bind (wpAny_updateSeq g rfl (wpAny_bind (wpAny_letGo ?_)))))
  have same : ∀ b o, b ≠ S → s.heap.get? b = some o → (s.heap.update S (Obj.mapSeq fun _ => #[])).get? b = some o := fun b o n e => (Heap.get?_update_other _ _ n.symm).trans e
  obtain ⟨ol, gl, kl⟩ := id hl
  exact back_fill hh (Heap.get?_update_self (Obj.mapSeq fun _ => #[]) g rfl) (hit.at fun o e => same it o apart.2.1.symm e) ⟨ol, same l ol apart.2.2.symm gl, kl⟩ apart lim fun h' tk acc c' keep full told => fin h' tk acc c' (fun b o n1 n2 e => keep b o n1 n2 (same b o n1 e)) full told
/-- list(an iterator over l from its end): a new list -/
theorem back_call {Q : Value → Shared → Prop} (hh : A.handled = none) (hit : s.heap.IsRevIter it l ((items.size : Int) - 1)) (hl : s.heap.IsList l items) (ne : l ≠ it) (lim : items.size ≤ sizeLine)
    (q : ∀ (h' : Heap) (tk : Nat) (acc : Array Value) (c' : Nat), (∀ b o, b ≠ it → s.heap.get? b = some o → h'.get? b = some o) → h'.get? s.heap.objs.size = some { cls := .type "list", dict := none, data := .seq acc c', slots := #[] } → ItemsOf (Back items) acc items.size → Q (.ref s.heap.objs.size) { s with heap := h', toks := tk }) :
    wpAny (model prog w) A (call (.type "list") [.ref it]) Q E s := by
  have grown : ∀ b o, s.heap.get? b = some o → (s.heap.push { cls := .type "list", data := .seq #[] }).get? b = some o := fun _ _ => Heap.get?_push_of_some _
  have fresh : ∀ b o, s.heap.get? b = some o → s.heap.objs.size ≠ b := fun b o e => Nat.ne_of_gt (Heap.lt_size e)
  have top : (s.heap.push { cls := .type "list", data := .seq #[] }).get? s.heap.objs.size = some { cls := .type "list", data := .seq #[] } := Heap.get?_push_size _ rfl
  refine callType_codes (Q₁ := fun v z => v = .ref s.heap.objs.size ∧ z = { s with heap := s.heap.push { cls := .type "list", data := .seq #[] } }) F.called_list (F.typeCall_list_1 _) F.entry_list_init (code_list_new _ ⟨rfl, rfl⟩) ?_
  rintro _ _ ⟨rfl, rfl⟩
  refine ⟨⟨_, top, rfl⟩, F.args_list_init_2 _ _, ?_⟩
  have ⟨oi, gi, _⟩ := hit
  have ⟨ol, gl, kl⟩ := hl
  refine back_init (A := A.in1) hh top (hit.at fun o e => grown _ o e) ⟨ol, grown l ol gl, kl⟩ ⟨ne, fresh it oi gi, fresh l ol gl⟩ lim fun h' tk acc c' keep full told => ⟨rfl, q h' tk acc c' (fun b o n e => keep b o (fresh b o e).symm n (grown b o e)) full told⟩
end
/-- list(reversed(a list)) -/
def eRev (A : TE3) : TE3 := fun s m k x => A s m (fun d m1 => ∃ a l, d = .ref a ∧ RL m1 a l ∧ ∀ q, m1 q = none → k (.ref q) (mset m1 q (.lst l.reverse))) x
theorem x_rev {A : TE3} {s : S3} {m : Mp} {k : K3} {x : X3} (h : A s m (fun d m1 => ∃ a l, d = .ref a ∧ RL m1 a l ∧ ∀ q, m1 q = none → k (.ref q) (mset m1 q (.lst l.reverse))) x) : eRev A s m k x := h
section
variable {X : Cx} {cl : Cl} {W : WX} {A : TE3} {e : Expr} {p p2 pos pos2 : Pos}
theorem mono_rev (ha : MonoE A) : MonoE (eRev A) := fun s m k k' x x' hk hx h => ha _ _ _ _ _ _ (fun d m1 ⟨a, l, e, r, z⟩ => ⟨a, l, e, r, fun q hq => hk _ _ (z q hq)⟩) hx h
/-- reversed(a list), just made: at s1 the list stood alone -/
def RevMade (X : Cx) (cl : Cl) (pins : List (Addr × Obj)) (σ : L2.St) (H : Hp) (Q : VK) (r : Value) (s2 : Shared) : Prop :=
  ∃ (q : Addr) (l : List D) (vs : List V) (its : List Value) (H1 : Hp) (m1 : Mp) (s1 : Shared), r = .ref s1.heap.objs.size ∧ s2 = { s1 with heap := s1.heap.push (revObj q ((its.toArray.size : Int) - 1)) } ∧ Inv X pins σ H1 s1 ∧ PlainL s1.heap q its.toArray ∧ vs.length ≤ sizeLine ∧ Vals vs its ∧ Reps X.K H1 l vs ∧ Ab X.K cl H1 m1 ∧ Ext H H1 ∧
    ∀ z, m1 z = none → cE X.K cl H Q (.ref z) (mset m1 z (.lst l.reverse))
theorem rev_made {pins : List (Addr × Obj)} {σ : L2.St} {H : Hp} {s : Shared} {Q : VK} (hg2 : Gl X "reversed") (hm2 : X.mg "reversed" = none) (ha : QE X cl W e A) (hs : starEach [e] X.env = (false, eval e X.env) :: starEach [] X.env) (I : Inv X pins σ H s) (h : upE X.K cl W (eRev A) σ H Q) :
    wpAny (model X.prog X.w) X.A (eval (.Call (.Name "reversed" p2) [e] [] pos2) X.env) (RevMade X cl pins σ H Q) X.xe s := by
  obtain ⟨sl, m, hsl, hm, h⟩ := h
  have arg := ha.run.run pins s σ H (fun v H1 => ∃ d m1, Rep X.K H1 d v ∧ Ab X.K cl H1 m1 ∧ Ext H H1 ∧ ∃ a l, d = .ref a ∧ RL m1 a l ∧ ∀ z, m1 z = none → cE X.K cl H Q (.ref z) (mset m1 z (.lst l.reverse))) I
    ⟨sl, m, hsl, hm, ha.mono _ _ _ _ _ _ (fun d m1 z v H1 r hm1 e1 => ⟨d, m1, r, hm1, e1, z⟩) (fun _ _ z => z) h⟩
  refine Call_ (ld_blt I hg2 hm2 PyProof.Rows.boot_reversed (PyProof.Rows.callWith_type1 (args_cons (wpAny_mono arg ?_ fun _ _ z => z) hs) hs rfl))
  rintro u s1 ⟨v, H1, I1, rv, d, m1, rd, hm1, e1, q, l, rfl, rl, w⟩
  obtain rfl : v = .ref q := rd
  cases rv
  obtain ⟨vs, sq, rps⟩ := hm1.rl rl
  obtain ⟨its, vals, pl, lim⟩ := I1.list sq
  exact args_nil (call_reversed_list pl.isList ⟨q, l, vs, its, H1, m1, s1, rfl, rfl, I1, pl, lim, vals, rps, hm1, e1, w⟩)
theorem q_rev (hc : X.calm = true) (hg : Gl X "list") (hm : X.mg "list" = none) (hg2 : Gl X "reversed") (hm2 : X.mg "reversed" = none) (ha : QE X cl W e A) (hs : starEach [e] X.env = (false, eval e X.env) :: starEach [] X.env := by rfl)
    (hs2 : starEach [.Call (.Name "reversed" p2) [e] [] pos2] X.env = (false, eval (.Call (.Name "reversed" p2) [e] [] pos2) X.env) :: starEach [] X.env := by rfl) :
    QE X cl W (.Call (.Name "list" p) [.Call (.Name "reversed" p2) [e] [] pos2] [] pos) (eRev A) := by
  refine ⟨mono_rev ha.mono, ⟨fun pins s σ H Q I h => ?_⟩⟩
  refine Call_ (ld_blt I hg hm boot_list (PyProof.Rows.callWith_type1 (args_cons (wpAny_mono (rev_made hg2 hm2 ha hs I h) ?_ fun _ _ z => z) hs2) hs2 rfl))
  rintro _ _ ⟨q, l, vs, its, H1, m1, s1, rfl, rfl, I1, pl, lim, vals, rps, hm1, e1, w⟩
  have grown : ∀ b o, s1.heap.get? b = some o → (s1.heap.push (revObj q ((its.toArray.size : Int) - 1))).get? b = some o := fun _ _ => Heap.get?_push_of_some _
  have ⟨ol, gl, kl⟩ := pl.isList
  have small : its.toArray.size ≤ sizeLine := by rw [List.size_toArray, ← vals.length]; exact lim
  have up : s1.heap.objs.size ≤ (s1.heap.push (revObj q ((its.toArray.size : Int) - 1))).objs.size := by rw [size_push']; exact Nat.le_succ _
  refine args_nil (back_call (I1.ok.hd hc) ⟨_, Heap.get?_push_size _ rfl, rfl, rfl⟩ ⟨ol, grown q ol gl, kl⟩ (Nat.ne_of_lt (Heap.lt_size gl)) small fun h' tk acc c' keep full told => ?_)
  have free := I1.hok.fresh up
  have made : ObjOk X.prog X.w (upd H1 (s1.heap.push (revObj q ((its.toArray.size : Int) - 1))).objs.size (.lst vs.reverse)) h' _ (.lst vs.reverse) := ⟨by rw [List.length_reverse]; exact lim, acc.toList, c', RT.vals_rev vals told, by rw [Array.toArray_toList]; exact full⟩
  exact ⟨.ref _, _, I1.laid (t' := tk) (fun b o e => keep b o (Nat.ne_of_lt (Heap.lt_size e)) (grown b o e)) up made, rfl, w _ (hm1.free free) _ _ rfl (new_lst hm1 free rps.reverse) (e1.trans (Ext.new free))⟩
end
end PV

/-! Walks over reversed(a list), enumerate(a list); isinstance with several built-in classes. -/
namespace PV
open PySem L2 PyProof.Rows
section
variable {X : Cx} {cl : Cl} {W : WX} {a tg : Expr} {A : TE3} {R : TA3} {p pos : Pos}
theorem walk_rev {q : Addr} {l : List D} {H0 : Hp} : Walk3 X.K cl H0 (Itv X.K q l.length) l.reverse fun m => RL m q l := fun i H m e0 hm h hi => by
  obtain ⟨vs, q1, q2⟩ := hm.rl h
  rw [List.length_reverse] at hi
  refine ⟨fun e => by rw [List.length_reverse] at e; exact Nat.le_of_eq e.symm, fun d hd => ?_⟩
  have hlt := (List.getElem?_eq_some_iff.mp hd).1
  rw [List.length_reverse] at hlt
  rw [List.getElem?_reverse hlt] at hd
  obtain ⟨v, e1, r1⟩ := q2.get hd
  refine ⟨⟨hlt, vs, v, q1, e1⟩, fun x H' ⟨eH, hx⟩ => ?_⟩
  subst eH
  have e2 := hx vs q1
  rw [e1] at e2; cases e2
  exact ⟨r1, hm, Ext.refl _⟩
def iRv (R : TA3) : TI3 := fun s m k x => R s m (fun ds m1 => ∃ q l, ds = [.ref q] ∧ RL m1 q l ∧ k l.reverse (fun m => RL m q l) m1) x
theorem qi_rev (hg : Gl X "reversed") (hm : X.mg "reversed" = none) (ha : QA X cl W [a] R) (hs : starEach [a] X.env = [(false, eval a X.env)]) : QI X cl W tg (.Call (.Name "reversed" p) [a] [] pos) (iRv R) :=
  ⟨fun s m k k' x x' hk hx h => ha.mono _ _ _ _ _ _ (fun ds m1 ⟨q, l, e, z, w⟩ => ⟨q, l, e, z, hk _ _ _ w⟩) hx h,
   PI.imp (pi_reversed hg hm ha.run hs) fun σ H Q ⟨s, m, h1, h2, h⟩ => ⟨s, m, h1, h2, ha.mono _ _ _ _ _ _ (fun ds m1 ⟨q, l, e, z, w⟩ vs H1 r hm1 e1 => by
    subst e
    obtain ⟨v, rfl, y⟩ := reps1 r
    cases y
    obtain ⟨us, q1, q2⟩ := hm1.rl z
    refine ⟨q, us, rfl, q1, ?_⟩
    rw [← q2.length]
    exact w _ H1 walk_rev hm1 e1) (fun _ _ z => z) h⟩⟩
def enumD (l : List D) : List D := l.mapIdx fun i d => .tup [.int (i : Nat), d]
theorem enumD_length {l : List D} : (enumD l).length = l.length := by unfold enumD; simp
theorem enumD_get {l : List D} {i : Nat} {d : D} (h : (enumD l)[i]? = some d) : ∃ e, l[i]? = some e ∧ d = .tup [.int (i : Nat), e] := by
  unfold enumD at h
  rw [List.getElem?_mapIdx] at h
  cases e : l[i]? with
  | none => rw [e] at h; cases h
  | some y => rw [e] at h; exact ⟨y, rfl, (Option.some.inj h).symm⟩
theorem walk_enum {q : Addr} {l : List D} {H0 : Hp} : Walk3 X.K cl H0 (Ite X.K q) (enumD l) fun m => RL m q l := fun i H m e0 hm h hi => by
  obtain ⟨vs, q1, q2⟩ := hm.rl h
  refine ⟨fun e => ⟨vs, q1, by rw [enumD_length] at e; rw [← q2.length]; omega⟩, fun d hd => ?_⟩
  obtain ⟨y, h1, rfl⟩ := enumD_get hd
  obtain ⟨v, e1, r1⟩ := q2.get h1
  refine ⟨⟨vs, v, q1, e1⟩, fun z H' ⟨T, u, ez, hT, eH, hu⟩ => ?_⟩
  subst ez eH
  have f1 := hu vs q1
  rw [e1] at f1; cases f1
  exact ⟨rep_tup hT ⟨_, _, rfl, rfl, _, _, rfl, r1, rfl⟩, hm.hid hT, Ext.new hT⟩
def iEn (R : TA3) : TI3 := fun s m k x => R s m (fun ds m1 => ∃ q l, ds = [.ref q] ∧ RL m1 q l ∧ k (enumD l) (fun m => RL m q l) m1) x
theorem qi_enum {elts : List Expr} {kk : Nat} {tpos : Pos} (hg : Gl X "enumerate") (hm : X.mg "enumerate" = none) (ha : QA X cl W [a] R) (hs : starEach [a] X.env = [(false, eval a X.env)]) : QI X cl W (.Tuple elts kk tpos) (.Call (.Name "enumerate" p) [a] [] pos) (iEn R) :=
  ⟨fun s m k k' x x' hk hx h => ha.mono _ _ _ _ _ _ (fun ds m1 ⟨q, l, e, z, w⟩ => ⟨q, l, e, z, hk _ _ _ w⟩) hx h,
   PI.imp (pi_enum hg hm ha.run hs) fun σ H Q ⟨s, m, h1, h2, h⟩ => ⟨s, m, h1, h2, ha.mono _ _ _ _ _ _ (fun ds m1 ⟨q, l, e, z, w⟩ vs H1 r hm1 e1 => by
    subst e
    obtain ⟨v, rfl, y⟩ := reps1 r
    cases y
    obtain ⟨us, q1, q2⟩ := hm1.rl z
    exact ⟨q, us, rfl, q1, w _ H1 walk_enum hm1 e1⟩) (fun _ _ z => z) h⟩⟩
end
section
variable {R : TA3} {s : S3} {m : Mp} {x : X3} {ki : List D → (Mp → Prop) → Mp → Prop} {l : List D} {p : Addr}
theorem x_irv (h : R s m (fun ds m1 => ∃ q l, ds = [.ref q] ∧ RL m1 q l ∧ ki l.reverse (fun m => RL m q l) m1) x) : iRv R s m ki x := h
theorem x_ien (h : R s m (fun ds m1 => ∃ q l, ds = [.ref q] ∧ RL m1 q l ∧ ki (enumD l) (fun m => RL m q l) m1) x) : iEn R s m ki x := h
theorem x_irL (h1 : RL m p l) (h : ki l.reverse (fun m => RL m p l) m) : ∃ q l', [D.ref p] = [.ref q] ∧ RL m q l' ∧ ki l'.reverse (fun m => RL m q l') m := ⟨p, l, rfl, h1, h⟩
theorem x_ieL (h1 : RL m p l) (h : ki (enumD l) (fun m => RL m p l) m) : ∃ q l', [D.ref p] = [.ref q] ∧ RL m q l' ∧ ki (enumD l') (fun m => RL m q l') m := ⟨p, l, rfl, h1, h⟩
end
/-! isinstance(x, (int, str)) -/
def anyK (t : String) : List String → Option Bool
  | [] => some false
  | c :: cs => match kitB t c with
    | some true => some true
    | some false => anyK t cs
    | none => none
theorem anyK_kit {K : PySem.W.Frag} {t : String} : ∀ {ts : List String} {b : Bool}, anyK t ts = some b → PySem.W.kitAny K (.type t) (ts.map Value.type) = some b
  | [], b, h => by cases h; exact kitAny_nil
  | c :: cs, b, h => by
    unfold anyK at h
    cases e : kitB t c with
    | none => rw [e] at h; cases h
    | some r =>
      rw [e] at h
      cases r with
      | true => cases h; exact kitAny_cons (kit_ty e) (fun z => by cases z) (fun _ => rfl)
      | false => exact kitAny_cons (kit_ty e) (fun _ => anyK_kit h) (fun z => by cases z)
structure QTys (X : Cx) (es : List Expr) (ts : List String) : Prop where
  run : PA X es (fun _ H Q => Q (ts.map V.ty) H)
section
variable {X : Cx} {cl : Cl} {W : WX} {a : Expr} {es : List Expr} {A : TE3} {p p2 pos : Pos}
theorem ts_nil : QTys X [] [] := ⟨PA.imp pa_nil fun σ H Q h => h⟩
theorem ts_cons {x : Str} {T : String} {ts : List String} (hv : bootBuiltins x = some (.type T)) (hn : x ≠ "__name__") (hdb : (x == ("__debug__" : Str)) = false) (hg : Gl X x) (hm : X.mg x = none) (r : QTys X es ts)
    (hs : starEach (.Name x p :: es) X.env = (false, eval (.Name x p) X.env) :: starEach es X.env) : QTys X (.Name x p :: es) (T :: ts) :=
  ⟨PA.imp (pa_cons (pe_bltn (v := V.ty T) hg hm hv rfl hn hdb) r.run hs) fun σ H Q h => h⟩
def eIsT (A : TE3) (ts : List String) : TE3 := fun s m k x => A s m (fun d m1 => ∃ t b, TyD m1 d t ∧ anyK t ts = some b ∧ k (.bl b) m1) x
theorem paired_ty : ∀ ts : List String, Paired ClsV (ts.map V.ty) (ts.map Value.type)
  | [] => .nil
  | t :: ts => .cons (.ty t) (paired_ty ts)
theorem q_ist {k0 : Nat} {ts : List String} (hg : Gl X "isinstance") (hm : X.mg "isinstance" = none) (ha : QE X cl W a A) (hc : QTys X es ts) (hl : ts.length ≤ 1000)
    (h1 : starEach [a, .Tuple es k0 p2] X.env = (false, eval a X.env) :: starEach [.Tuple es k0 p2] X.env) (h2 : starEach [.Tuple es k0 p2] X.env = (false, eval (.Tuple es k0 p2) X.env) :: starEach [] X.env) (hpl : (backTo pos (starEach [.Tuple es k0 p2] X.env)).any (·.1) = false) :
    QE X cl W (.Call (.Name "isinstance" p) [a, .Tuple es k0 p2] [] pos) (eIsT A ts) := by
  refine ⟨fun s m k k' x x' hk hx q => ha.mono _ _ _ _ _ _ (fun d m1 ⟨t, b, z1, z2, z3⟩ => ⟨t, b, z1, z2, hk _ _ z3⟩) hx q, ?_⟩
  refine PE.imp (pe_callB call_isiT hg hm (by decide +kernel) (pa_cons ha.run (pa_cons (pe_tup hc.run) pa_nil h2) h1) (by decide) (by decide) h1 hpl) fun σ H Q ⟨s, m, hs, hm, q⟩ => ?_
  refine ⟨s, m, hs, hm, ha.mono _ _ _ _ _ _ (fun d m1 ⟨t, b, z1, z2, z3⟩ v H1 r hm1 ee => ?_) (fun _ _ z => z) q⟩
  show (ts.map V.ty).length ≤ sizeLine ∧ ∀ p, H1 p = none → rIsiT X.K [v, .ref p] (upd H1 p (.tup (ts.map V.ty))) Q
  refine ⟨?_, fun tp htp => ?_⟩
  · rw [List.length_map]
    exact Nat.le_trans hl (by decide)
  have e2 := Ext.new (o := .tup (ts.map V.ty)) htp
  have hm2 := hm1.hid (u := .tup (ts.map V.ty)) htp
  exact ⟨v, tp, _, .type t, _, b, rfl, upd_same, paired_ty ts, z1.up (r.mono e2) hm2, anyK_kit z2, z3 _ _ rfl hm2 (ee.trans e2)⟩
end
section
variable {A : TE3} {s : S3} {m : Mp} {k : K3} {x : X3} {ts : List String} {d : D} {t : String} {b : Bool}
theorem x_ist (h : A s m (fun d m1 => ∃ t b, TyD m1 d t ∧ anyK t ts = some b ∧ k (.bl b) m1) x) : eIsT A ts s m k x := h
theorem xf_istT {Z : Bool → Prop} (h0 : TyD m d t) (h1 : anyK t ts = some true) (h : Z true) : ∃ t b, TyD m d t ∧ anyK t ts = some b ∧ Z b := ⟨t, true, h0, h1, h⟩
theorem xf_istF {Z : Bool → Prop} (h0 : TyD m d t) (h1 : anyK t ts = some false) (h : Z false) : ∃ t b, TyD m d t ∧ anyK t ts = some b ∧ Z b := ⟨t, false, h0, h1, h⟩
theorem xf_ist {Z : Bool → Prop} (h0 : TyD m d t) (h1 : anyK t ts = some b) (h : Z b) : ∃ t b, TyD m d t ∧ anyK t ts = some b ∧ Z b := ⟨t, b, h0, h1, h⟩
end
end PV

/-! A list comprehension whose element may raise. -/
namespace PV
open PySem L2 PyProof.Rows
section
variable {M : Model} {A : Around} {E : Value → Shared → Prop} {env : Env} {outer l : List Env} {B G : Heap} {L C e : Addr} {Z : Obj → Prop} {s : Shared}
/-- held by another frame: noted by this one -/
theorem note_other (hZ : HandSPX.Steady Z) (hfr : A.frames = some (env :: outer)) (hf : env.frame = some L) (hne : C ≠ L) (hh : HandSPX.HeldZ B (env :: outer) e Z C s.heap)
    {Q : Unit → Shared → Prop} (hQ : ∀ h', HandSPX.HeldZ B (env :: outer) e Z L h' → s.heap.UpToSlots h' → Q () { s with heap := h' }) : wpAny M A (noteFrame (.ref e) env) Q E s := by
  obtain ⟨st, na, ff, o1, v1, T, o2, v2, g1, z1, d1, i1, nT, Te, g2, d2, i2⟩ := hh
  unfold noteFrame
  simp only [hf]
  refine wpAny_bind (wpAny_field g1 d1 i1 ?_)
  rw [if_pos (show (Value.ref T != .none) = true by simp)]
  refine wpAny_bind (wpAny_field g2 d2 i2 ?_)
  rw [if_neg (show ¬ ((rawInt C == rawInt L) = true) from fun z => hne (Int.ofNat.inj (by simpa [rawInt] using z)))]
  refine wpAny_bind (wpAny_setField g2 d2 (Array.getElem?_eq_some_iff.mp i2).1 ?_)
  have kp : ∀ b, b ≠ T → (s.heap.update T (Obj.mapFields (·.setIfInBounds 3 Value.none))).get? b = s.heap.get? b := fun b n => Heap.get?_update_other _ _ n.symm
  have nr : ∀ b o, s.heap.get? b = some o → (∀ w, o.data ≠ .fields w) → b ≠ T := fun b o q n z => by rw [z, g2] at q; cases q; exact n _ d2
  refine HandSPX.wpAny_entryZ hZ hfr (ff.of_keeps fun b o q n => ⟨o, (kp b (nr b o q n)).trans q, rfl⟩) hf ((kp e Te.symm).trans g1) (fun b o q => (kp b fun z => by rw [z, nT] at q; cases q).trans (st b o q)) na d1 (Array.getElem?_eq_some_iff.mp i1).1 z1 fun h' hn => ?_
  obtain ⟨y1, y2, y3, y4⟩ := hn
  exact hQ h' ⟨y1, na, y2, y3⟩ fun b o q n => y4 b o ((kp b (nr b o q n)).trans q) n
theorem frames_base {h : Heap} (k : ∀ b, B.get? b = none → G.get? b = none) : ∀ {l : List Env}, h.FunFrames B l → h.FunFrames G l
  | [], _ => True.intro
  | _ :: _, ⟨a, ⟨L, o, b, c, d⟩, r⟩ => ⟨a, ⟨L, o, b, k L c, d⟩, frames_base k r⟩
end
section
variable {X : Cx} {pins : List (Addr × Obj)} {σ : L2.St} {H : Hp} {s : Shared} {W : WX}
/-- a block's context that lets exceptions out -/
abbrev blkX (X : Cx) (s : Shared) (H : Hp) (scope : Scope) (cenv : Env) (fp : List Addr) (xe : Value → Shared → Prop) : Cx := { X.blk s H scope cenv fp with xe := xe }
/-- the wish at the block's start -/
def wAt (W : WX) (σ : L2.St) : WX := fun c d _ H => W c d σ H
theorem inv_xe {scope : Scope} {cenv : Env} {fp : List Addr} {xe : Value → Shared → Prop} {p2 : List (Addr × Obj)} {σ2 : L2.St} {H2 : Hp} {s2 : Shared} (I : Inv (X.blk s H scope cenv fp) p2 σ2 H2 s2) : Inv (blkX X s H scope cenv fp xe) p2 σ2 H2 s2 := by
  obtain ⟨ok, a1, a2, a3, a4, a5, a6, a7, a8, a9, a10⟩ := I
  refine ⟨?_, a1, a2, a3, a4, a5, a6, a7, a8, a9, a10⟩
  obtain ⟨b1, b2, b3, b4, b5, b6, b7, b8, b9, b10, b11, b12, b13, b14, b15, b16, b17, b18⟩ := ok
  exact ⟨b1, b2, b3, b4, b5, b6, b7, b8, b9, b10, b11, b12, b13, b14, b15, b16, b17, b18⟩
/-- an exception in the block's air leaves the block -/
theorem comp_out {scope : Scope} {cenv : Env} {fp : List Addr} {xe : Value → Shared → Prop} (hst : X.stack = X.env :: X.outer) (hef : X.env.frame = some X.env.locals) (tk : Takes X W) (I : Inv X pins σ H s)
    (hfp : ∀ b ∈ fp, FpOk X pins H b) (hC : s.heap.objs.size ≤ cenv.locals) (hcf : cenv.frame = X.env.frame) {u : Value} {s' : Shared} (x : XE (blkX X s H scope cenv fp xe) (wAt W σ) u s') :
    notedBy (model X.prog X.w) X.A cenv (CompFails (model X.prog X.w) X.A X.xe cenv) u s' := by
  obtain ⟨a, B, sI, pb, σb, Hb, cls, d, rfl, J, nb, up, sky, na, os, ag, w⟩ := x
  have w : W cls d σ Hb := w
  have I7 : Inv X pins σ Hb sI := I.call' (ch := fp) J.os J.base J.hok J.bare fun b hb => ⟨(hfp b hb).2.2.2.1, (hfp b hb).2.1, (hfp b hb).2.2.2.2.1, (hfp b hb).2.2.2.2.2⟩
  obtain ⟨m0, nsI, -⟩ := J.loc
  have nsI : sI.heap.Ns cenv.locals m0 := nsI
  have nC : Hb cenv.locals = none := J.free
  have fpC : FpOk X pins Hb cenv.locals := I.fpOk hC nC
  have neL : cenv.locals ≠ X.env.locals := fpC.2.1
  have nF : cenv.locals ∉ frs X.stack := fun z => by
    rcases List.mem_cons.mp (I.stkSub _ z) with z | z
    · exact neL z
    · exact fpC.2.2.1 z
  obtain ⟨o0, _, _, q0, d0, _⟩ := id nsI
  have bC : B.get? cenv.locals = some o0 := nb _ _ q0 nF
  have hfr : X.A.frames = some (X.env :: X.outer) := I.ok.frames.trans (congrArg some hst)
  have fin : ∀ h1, HandSPX.HeldZ B (X.env :: X.outer) a (Zc cls d) X.env.locals h1 → s'.heap.UpToSlots h1 → CompFails (model X.prog X.w) X.A X.xe cenv (.ref a) { s' with heap := h1 } := fun h1 hh up1 => by
    obtain ⟨st, na1, ff, o1, v1, T, o2, v2, g1, z1, d1, i1, nT, Te, g2, d2, i2⟩ := hh
    refine ⟨m0, (up.trans up1).ns nsI, fun h2 m2 n2 sb => ?_⟩
    have aC : a ≠ cenv.locals := fun z => by rw [z, bC] at na1; cases na1
    have TC : T ≠ cenv.locals := fun z => by rw [z, bC] at nT; cases nT
    obtain ⟨G, r1, r2⟩ := restrict h2 fun b => (B.get? b).isSome
    have gN : ∀ b, B.get? b = none → G.get? b = none := fun b e => r2 b (by rw [e]; rfl)
    have gS : ∀ b o, B.get? b = some o → G.get? b = h2.get? b := fun b o e => r1 b (by rw [e]; rfl)
    have stG : G.StaysIn h2 := fun b o e => by
      cases q : B.get? b with
      | none => rw [gN b q] at e; cases e
      | some o' => rw [gS b o' q] at e; exact e
    have hh2 : HandSPX.HeldZ G (X.env :: X.outer) a (Zc cls d) X.env.locals h2 :=
      ⟨stG, gN a na1, frames_base gN (Heap.FunFrames.sameBut sb n2 ff), o1, v1, T, o2, v2, (sb.2 a aC).trans g1, z1, d1, i1, gN T nT, Te, (sb.2 T TC).trans g2, d2, i2⟩
    obtain ⟨oC, _, _, qC, dC, _⟩ := id n2
    unfold PySem.passOn
    refine wpAny_bind (wpAny_field ((sb.2 a aC).trans g1) d1 i1 ?_)
    rw [if_neg (show ¬ ((Value.ref T == .none) = true) by simp), hcf, hef]
    refine wpAny_bind (HandSPX.setFlight_onZ hh2 fun h3 hh3 up3 => wpAny_throw ?_)
    have qC3 : h3.get? cenv.locals = some oC := hh3.1 _ _ ((gS _ _ bC).trans qC)
    have e1 : (sI.heap.update cenv.locals fun _ => oC).get? cenv.locals = some oC := Heap.get?_update_self _ q0 (by cases oC; cases dC; rfl)
    have e2 : ∀ b, b ≠ cenv.locals → (sI.heap.update cenv.locals fun _ => oC).get? b = sI.heap.get? b := fun b n => Heap.get?_update_other _ _ n.symm
    have I8 : Inv X pins σ Hb { sI with heap := sI.heap.update cenv.locals fun _ => oC } := I7.turned (t' := sI.toks) (it := cenv.locals) (fun b o n q => (e2 b n).trans q) nC neL fpC.2.2.2.1 fpC.2.2.2.2.1 fpC.2.2.2.2.2
    refine tk _ _ ⟨a, G, _, pins, σ, Hb, cls, d, rfl, I8, fun b o q n => ?_, fun b o q n => ?_, .inr (.inr (by rw [hst]; exact hh3)), na, os, ag, w⟩
    · by_cases z : b = cenv.locals
      · subst z
        rw [e1] at q; cases q
        exact (gS _ _ bC).trans qC
      · rw [e2 b z] at q
        have q' := nb b o q n
        exact (gS b o q').trans ((sb.2 b z).trans (st b o q'))
    · by_cases z : b = cenv.locals
      · subst z
        rw [e1] at q; cases q
        exact ⟨_, qC3⟩
      · rw [e2 b z] at q
        obtain ⟨sl1, q1⟩ := (up.trans up1) b o q n
        obtain ⟨sl2, q2⟩ := up3 b _ ((sb.2 b z).trans q1) n
        exact ⟨sl2, q2⟩
  show wpAny _ _ (noteFrame (.ref a) cenv) _ _ s'
  rw [noteFrame_env _ hcf]
  have sky : Sky B X.stack a (Zc cls d) cenv.locals s'.heap := sky
  rw [hst] at sky
  rcases sky with ⟨k1, k2, k3, k4, k5, k6, k7, k8, k9⟩ | fl | hd
  · exact HandSPX.look_newZ Zc.steady hfr k3 hef k6 k1 k2 k8 k9 k7 fin
  · exact HandSPX.looks_onZ Zc.steady hfr hef fl fin
  · exact note_other Zc.steady hfr hef neL hd fin
end
end PV

namespace PV
open PySem L2 PyProof.Rows
/-- a block that has no cells of its own: its names' places -/
structure BlkNames (X : Cx) (scope : Scope) (ce : Env) : Prop where
  sub : ∀ y c, ce.cells.lookup y = some c → X.env.cells.lookup y = some c
  has : ∀ y, (y, NameKind.free) ∈ scope.names → ∃ c, ce.cells.lookup y = some c
theorem blk_names {X : Cx} {pins : List (Addr × Obj)} {σ : L2.St} {H : Hp} {s : Shared} {scope : Scope} {own : List (Str × Nat)} {C : Addr} (I : Inv X pins σ H s) (ok : BlkOk X.N X.env.scope scope own) :
    BlkNames X scope (compEnvC scope (cloFrom X.env.cells scope.names []) C X.env) := by
  constructor
  · intro y c e
    rcases cloFrom_mem (PySem.mem_of_lookup (show (cloFrom X.env.cells scope.names []).lookup y = some c from e)) with h | ⟨h, rfl⟩
    · cases h
    · obtain ⟨c', e'⟩ := I.ok.has y (ok.free _ h rfl)
      rw [e']; rfl
  · intro y hy
    exact mem_lookup (cloFrom_has hy)
/-- what a name of the block is: one of its own, or one that stands around it -/
theorem blk_kind {X : Cx} {scope : Scope} {C : Addr} {cl : List (Str × Addr)} {y : Str} {k : NameKind} (hcell : ∀ z ∈ scope.names, z.2 ≠ .cell) (h : (compEnvC scope cl C X.env).kindOf y = some k) :
    k = .cell ∨ k = .free → (y, NameKind.free) ∈ scope.names := by
  intro hk
  obtain ⟨k', e, r⟩ := lookup_relS (sc := X.env.scope) (names := scope.names) (x := y) (k := k) h
  have m := PySem.mem_of_lookup e
  rcases r with rfl | ⟨rfl, -⟩
  · rcases hk with rfl | rfl
    · exact absurd rfl (hcell _ m)
    · exact m
  · exact m
/-- where a block begins (no cells of its own): the ground is the state at the iterator -/
theorem blk_begins {X : Cx} {pins : List (Addr × Obj)} {σ : L2.St} {H : Hp} {s2 s3 : Shared} {scope : Scope} {own : List (Str × Nat)} {fp : List Addr} {D C : Addr} {xe : Value → Shared → Prop} (I : Inv X pins σ H s2) (ok : BlkOk X.N X.env.scope scope own)
    (hN : X.N.Nodup) (hcell : ∀ z ∈ scope.names, z.2 ≠ .cell) (hb : CompBegins s2 D C s3) (hfp : ∀ b ∈ fp, FpOk X pins H b ∧ b < s2.heap.objs.size) :
    Inv (blkX X s2 H scope (compEnvC scope (cloFrom X.env.cells scope.names []) C X.env) (D :: fp) xe) [] (wipe σ (own.map (·.2))) H s3 := by
  obtain ⟨⟨h3, tk, rfl⟩, old, nD, nC, neDC, ns⟩ := hb
  have nm := blk_names (C := C) I ok
  generalize hce : compEnvC scope (cloFrom X.env.cells scope.names []) C X.env = ce at nm ⊢
  have eL : ce.locals = C := by subst hce; rfl
  have knd : ∀ {y k}, ce.kindOf y = some k → k = .cell ∨ k = .free → (y, NameKind.free) ∈ scope.names := fun h => by subst hce; exact blk_kind hcell h
  have low : ∀ y c, ce.cells.lookup y = some c → c < s2.heap.objs.size := fun y c e => by
    obtain ⟨w, z⟩ := I.cell y c (nm.sub y c e)
    exact z.lt
  have ground : ∀ b ∈ D :: fp, FpOk X pins H b ∧ b ≠ C := fun b m => by
    rcases List.mem_cons.mp m with rfl | m
    · exact ⟨I.fpOk nD (I.hok.fresh nD), neDC⟩
    · exact ⟨(hfp b m).1, Nat.ne_of_lt (Nat.lt_of_lt_of_le (hfp b m).2 nC)⟩
  refine { ok := ?ok, os := rfl, bare := I.bare, base := Un.kept old, loc := ⟨fun _ => none, by rw [eL]; exact ns, ?loc⟩, cell := (fun y c e => ?cell), free := (by rw [eL]; exact I.hok.fresh nC), freeC := fun y c e => I.freeC y c (nm.sub y c e), pin := (fun p m => absurd m (by simp)), hok := I.hok.kept old, len := (by rw [wipe_length]; exact I.len) }
  case cell =>
    obtain ⟨w, z⟩ := I.cell y c (nm.sub y c e)
    exact ⟨w, z.keeps old⟩
  case loc =>
    intro i y u hi hu vis
    obtain ⟨hu, fresh⟩ := wipe_some hu
    obtain ⟨m, -, look⟩ := I.loc
    have fr : (y, NameKind.free) ∈ scope.names ∧ (ce.kindOf y = some .cell ∨ ce.kindOf y = some .free) := by
      rcases vis with v | v | v
      · subst hce
        obtain ⟨k', e, r⟩ := lookup_relS (sc := X.env.scope) (names := scope.names) (x := y) (k := .local) v
        rcases r with rfl | ⟨rfl, r⟩
        · rcases ok.own _ (PySem.mem_of_lookup e) (.inl rfl) with z | z
          · obtain ⟨q, q1, q2⟩ := List.mem_map.mp z
            have := ok.ix q q1
            rw [show q.1 = y from q2] at this
            exact absurd (List.mem_map.mpr ⟨q, q1, nodup_ix hN this hi⟩) fresh
          · exact absurd (List.mem_of_getElem? hi) z
        · cases r
      · exact ⟨knd v (.inl rfl), .inl v⟩
      · exact ⟨knd v (.inr rfl), .inr v⟩
    have outer := ok.free _ fr.1 rfl
    obtain ⟨w, r, q⟩ := look i y u hi hu (outer.elim (fun z => .inr (.inl z)) fun z => .inr (.inr z))
    refine ⟨w, r, .inr ⟨fr.2, ?_⟩⟩
    obtain ⟨c, e⟩ := nm.has y fr.1
    rcases q with ⟨z, -⟩ | ⟨-, c', e', z⟩
    · have z : X.env.scope.names.lookup y = some .local := z
      rcases outer with o | o <;> (rw [o] at z; cases z)
    · have := nm.sub y c e
      rw [e'] at this
      obtain rfl : c' = c := Option.some.inj this
      exact ⟨_, e, z.keeps old⟩
  case ok =>
    have o := I.ok
    refine { mod := o.mod, kind := (by subst hce; exact ok.kind), glob := (by subst hce; exact o.glob), blt := (by subst hce; exact o.blt), above := (by show _ ≤ ce.locals; rw [eL]; exact nC), inj := fun x y c a b => o.inj x y c (nm.sub x c a) (nm.sub y c b), has := (fun y h => ?has), cab := (fun y c h _ => ?cab), hd := o.hd, frames := o.frames, stk := .inl rfl, exf := fun b m => ⟨(by show b ≠ ce.locals; rw [eL]; exact (ground b m).2), fun y c e => (ground b m).1.2.2.2.2.1 y c (nm.sub y c e)⟩, bs := I.bs, bsz := Nat.le_trans o.bsz I.sz, noex := (fun b ob e m => ?noex), exfs := (fun b m z => ?exfs), funs := I.stack, frf := I.stkFree }
    case has =>
      rcases h with h | h
      · exact nm.has y (knd h (.inl rfl))
      · exact nm.has y (knd h (.inr rfl))
    case cab =>
      have h : scope.names.lookup y = some .cell := by simpa using (show (scope.names.lookup y == some NameKind.cell) = true from h)
      exact absurd rfl (hcell _ (PySem.mem_of_lookup h))
    case noex =>
      rcases (ground b m).1.2.2.2.1 with z | z
      · exact o.noex b ob e z
      · exact absurd (Nat.lt_of_lt_of_le (Heap.lt_size e) (Nat.le_trans o.bsz z)) (Nat.lt_irrefl _)
    case exfs =>
      rcases List.mem_cons.mp (I.stkSub b z) with z | z
      · exact (ground b m).1.2.1 z
      · exact (ground b m).1.2.2.1 z
end PV

namespace PV
open PySem L2 PyProof.Rows
/-- a list of n things is walked, whatever things of it are exchanged meanwhile -/
def StV (I l : Addr) (n i : Nat) (h : Heap) : Prop := h.IsListIter I l i ∧ ∃ its : Array Value, its.size = n ∧ h.IsList l its
def YdV (l : Addr) (i : Nat) (v : Value) (h : Heap) : Prop := ∃ its : Array Value, its[i]? = some v ∧ h.IsList l its
theorem goes_var {prog : Program} {w : World} {A : Around} {target : Expr} (hh : A.handled = none) {I l : Addr} (hne : l ≠ I) (n : Nat) : Goes prog w A target I [I, l] [I] n (YdV l) (StV I l n) := by
  have rule := fun its : Array Value => Goes.list (prog := prog) (w := w) (target := target) hh I l hne its
  constructor
  · exact (rule #[]).sub
  · rintro i h h' ⟨a, its, e, b⟩ keep
    obtain ⟨a', b'⟩ := (rule its).frame i h h' ⟨a, b⟩ keep
    exact ⟨a', its, e, b'⟩
  · rintro i s Q E hi ⟨a, its, rfl, b⟩ hQ
    refine (rule its).goes i s Q E hi ⟨a, b⟩ fun v h' tk hv st keep ht => ?_
    exact hQ v h' tk ⟨its, hv, st.2⟩ ⟨st.1, its, rfl, st.2⟩ keep ht
  · rintro s Q E ⟨a, its, rfl, b⟩ hQ
    exact (rule its).stops s Q E ⟨a, b⟩ hQ
  · rintro i s Q E ⟨a, its, rfl, b⟩ q
    exact (rule its).self i s Q E ⟨a, b⟩ q
/-- [elt for x in it], x in slot i; what is told so far is no part of the memory till the end; the element may raise -/
def eLcG (T : TI3) (i : Nat) (B : TE3) : TE3 := fun s m k x => T s m (fun l R m1 => ∃ P : List D → Mp → Prop, P [] m1 ∧ (∀ acc m, acc.length ≤ l.length → P acc m → R m) ∧
  (∀ acc d m, l[acc.length]? = some d → P acc m → B (s.set i (some d)) m (fun y m4 => P (acc ++ [y]) m4) x) ∧
  ∀ acc m, acc.length = l.length → P acc m → ∀ q, m q = none → k (.ref q) (mset m q (.lst acc))) x
theorem mono_lcG {T : TI3} {B : TE3} {i : Nat} (ha : MonoI T) (hb : MonoE B) : MonoE (eLcG T i B) := fun s m k k' x x' hk hx h =>
  ha _ _ _ _ _ _ (fun l R m1 ⟨P, a, b, c, d⟩ => ⟨P, a, b, fun acc d m q z => hb _ _ _ _ _ _ (fun _ _ h => h) hx (c acc d m q z), fun acc m q z w hw => hk _ _ (d acc m q z w hw)⟩) hx h
theorem x_lcG {T : TI3} {B : TE3} {i : Nat} {s : S3} {m : Mp} {k : K3} {x : X3} (h : T s m (fun l R m1 => ∃ P : List D → Mp → Prop, P [] m1 ∧ (∀ acc m, acc.length ≤ l.length → P acc m → R m) ∧
  (∀ acc d m, l[acc.length]? = some d → P acc m → B (s.set i (some d)) m (fun y m4 => P (acc ++ [y]) m4) x) ∧
  ∀ acc m, acc.length = l.length → P acc m → ∀ q, m q = none → k (.ref q) (mset m q (.lst acc))) x) : eLcG T i B s m k x := h
end PV

namespace PV
open PySem L2 PyProof.Rows
/-- what a comprehension walks: the things l, from an iterator that goes on while R holds of the memory -/
structure Src (X : Cx) (cl : Cl) (tg : Expr) (it : Addr) (fp : List Addr) (l : List D) (R : Mp → Prop) (H0 : Hp) (Y : Nat → Value → Heap → Prop) (St : Nat → Heap → Prop) : Prop where
  goes : Goes X.prog X.w X.A tg it fp [it] l.length Y St
  obj : ∀ i h, St i h → ∃ o, h.get? it = some o ∧ ∀ v, o.data ≠ .cell v
  item : ∀ (Z : Cx) (pins : List (Addr × Obj)) (σ : L2.St) (H : Hp) (s : Shared) (m : Mp) (i : Nat) (v : Value) (d : D), Z.K = X.K → Inv Z pins σ H s → Ab X.K cl H m → Ext H0 H → R m → l[i]? = some d → Y i v s.heap → ∃ u, Rep X.K H d u ∧ RelV u v
  again : ∀ (Z : Cx) (pins : List (Addr × Obj)) (σ : L2.St) (H : Hp) (s : Shared) (m : Mp) (i : Nat) (h : Heap), Z.K = X.K → Inv Z pins σ H s → Ab X.K cl H m → Ext H0 H → R m → St i h → (∀ o, h.get? it = some o → s.heap.get? it = some o) → St i s.heap
section
variable {X : Cx} {cl : Cl} {W : WX} {B : TE3} {i : Nat} {x : Str} {a e : Expr} {scope : Scope} {p1 pos : Pos}
theorem in_two {α : Type} {b u v : α} (h : b ∈ [u, v]) : b = u ∨ b = v := by simpa using h
/-- the names of the block are found -/
theorem blk_clos {pins : List (Addr × Obj)} {σ : L2.St} {H : Hp} {s : Shared} (I : Inv X pins σ H s) (ok : BlkOk X.N X.env.scope scope [(x, i)]) : closureFor scope X.env = pure (cloFrom X.env.cells scope.names []) :=
  closure_ok fun y m q => (ok.free y m q).elim (fun z => I.ok.has _ (.inl z)) fun z => I.ok.has _ (.inr z)
/-- the turns of a comprehension whose element may raise: what is told so far is no part of the memory till the end -/
theorem lc_turns {pins : List (Addr × Obj)} {σ : L2.St} {H1 : Hp} {s2 : Shared} {it : Addr} {fp : List Addr} {l : List D} {R : Mp → Prop} {Y : Nat → Value → Heap → Prop} {St : Nat → Heap → Prop} {sl : S3} {m1 : Mp} {P : List D → Mp → Prop} {use : Option (Value → Sem Unit)} {Q : Value → Shared → Prop}
    (tk : Takes X W) (hst : X.stack = X.env :: X.outer) (hef : X.env.frame = some X.env.locals) (hN : X.N.Nodup) (ok : BlkOk X.N X.env.scope scope [(x, i)]) (hcell : ∀ z ∈ scope.names, z.2 ≠ .cell)
    (hg : ∀ (s : Shared) (H : Hp) (C : Addr) (cz : List (Str × Addr)) (fp : List Addr) (xe : Value → Shared → Prop), PG (blkX X s H scope (compEnvC scope cz C X.env) fp xe) (.Name x p1) (gName i))
    (hb : ∀ (s : Shared) (H : Hp) (C : Addr) (cz : List (Str × Addr)) (fp : List Addr) (xe : Value → Shared → Prop) (σ : L2.St), Takes (blkX X s H scope (compEnvC scope cz C X.env) fp xe) (wAt W σ) → QE (blkX X s H scope (compEnvC scope cz C X.env) fp xe) cl (wAt W σ) e B)
    (I2 : Inv X pins σ H1 s2) (src : Src X cl (.Name x p1) it fp l R H1 Y St) (st0 : St 0 s2.heap) (low : ∀ b ∈ fp, b < s2.heap.objs.size) (fit : FpOk X pins H1 it) (lim : l.length ≤ sizeLine) (hs0 : RepS X.K H1 sl σ) (hm1 : Ab X.K cl H1 m1)
    (P0 : P [] m1) (PR : ∀ acc m, acc.length ≤ l.length → P acc m → R m) (Pstep : ∀ acc d m, l[acc.length]? = some d → P acc m → B (sl.set i (some d)) m (fun y m4 => P (acc ++ [y]) m4) (cX X.K cl W H1 σ))
    (fin : ∀ (q : Addr) (ce : Env) (s : Shared) (H' : Hp) (acc : List D) (m : Mp), Inv X pins σ H' s → FpOk X pins H' ce.locals → (∃ mC, s.heap.Ns ce.locals mC) → Ab X.K cl H' (mset m q (.lst acc)) → Ext H1 H' → acc.length = l.length → P acc m → m q = none → compEnds (model X.prog X.w) X.A X.xe use Q (.ref q) ce (.ok .next) s) :
    LcGoes X.prog X.w X.A X.xe X.env scope (cloFrom X.env.cells scope.names []) (.Name x p1) [] e use Q (.ref it) s2 := by
  obtain ⟨oI, itAt, itOk⟩ := src.obj 0 _ st0
  have itLt := Heap.lt_size itAt
  refine ⟨it, fp, [it], l.length, Y, St, rfl, src.goes, lim, st0, low, fun D C s3 hbeg => ?_⟩
  have nD := hbeg.newD
  have nC := hbeg.newC
  have neDC := hbeg.ne
  have fitS : ∀ b ∈ [it], FpOk X pins H1 b ∧ b < s2.heap.objs.size := fun b hb => by rw [List.mem_singleton.mp hb]; exact ⟨fit, itLt⟩
  obtain ⟨xb, hxb⟩ : ∃ xb, xb = notedBy (model X.prog X.w) X.A (compEnvC scope (cloFrom X.env.cells scope.names []) C X.env) (CompFails (model X.prog X.w) X.A X.xe (compEnvC scope (cloFrom X.env.cells scope.names []) C X.env)) := ⟨_, rfl⟩
  have start := blk_begins (xe := xb) I2 ok hN hcell hbeg fitS
  have grd : ∀ b ∈ [D, it], FpOk X pins H1 b := fun b hb => by
    rcases in_two hb with rfl | rfl
    · exact I2.fpOk nD (I2.hok.fresh nD)
    · exact fit
  have pg := hg s2 H1 C (cloFrom X.env.cells scope.names []) [D, it] xb
  have pe := hb s2 H1 C (cloFrom X.env.cells scope.names []) [D, it] xb σ fun u s' z => by
    rw [hxb]; exact comp_out (cenv := compEnvC scope (cloFrom X.env.cells scope.names []) C X.env) hst hef tk I2 grd nC rfl z
  have eL : (compEnvC scope (cloFrom X.env.cells scope.names []) C X.env).locals = C := rfl
  generalize compEnvC scope (cloFrom X.env.cells scope.names []) C X.env = ce at *
  have free0 : ∀ b ∈ [D, it], H1 b = none := fun b hb => (grd b hb).1
  -- what stands between two turns: what is told so far is acc
  refine ⟨fun k ys s => ∃ H' m acc us, Inv (blkX X s2 H1 scope ce [D, it] xb) [] (wipe σ [i]) H' s ∧ (∀ b ∈ [D, it], H' b = none) ∧ Ab X.K cl H' m ∧ Ext H1 H' ∧ P acc m ∧ acc.length = k ∧ Reps X.K H' acc us ∧ Vals us ys,
    ⟨H1, m1, [], [], start, free0, hm1, Ext.refl _, P0, rfl, rfl, .nil⟩, ?keep, ?turn, ?fin⟩
  case keep =>
    rintro k ys s h' tks ⟨H', m, acc, us, J, n0, rest⟩ same -
    refine ⟨H', m, acc, us, J.turnedL (ch := [D, it]) same fun b hb => ?_, n0, rest⟩
    exact ⟨n0 b hb, (J.ok.exf b hb).1, J.ok.exfs b hb, .inl hb, (J.ok.exf b hb).2, fun q m => absurd m (by simp)⟩
  case turn =>
    rintro k v ys s hk yv st ⟨H', m, acc, us, J, n0, hm, ext, Pm, rfl, ra, va⟩ pld
    have fpo : ∀ b ∈ [D, it], FpOk (blkX X s2 H1 scope ce [D, it] xb) [] H' b := fun b hb => ⟨n0 b hb, (J.ok.exf b hb).1, J.ok.exfs b hb, .inl hb, (J.ok.exf b hb).2, fun q m => absurd m (by simp)⟩
    obtain ⟨nPl, plD⟩ := id pld
    obtain ⟨oT, gT, kT⟩ := src.obj _ _ st
    have pinned := J.pinned fpo fun b hb => by
      rcases in_two hb with rfl | rfl
      · exact ⟨_, plD, fun _ z => by cases z⟩
      · exact ⟨_, gT, kT⟩
    have hd := List.getElem?_eq_getElem hk
    obtain ⟨u, ru, rv⟩ := src.item (blkX X s2 H1 scope ce [D, it] xb) _ _ _ _ m _ v _ rfl J hm ext (PR acc m (Nat.le_of_lt hk) Pm) hd yv
    have raise : ∀ u s', xb u s' → notedBy (model X.prog X.w) X.A ce (CompFails (model X.prog X.w) X.A X.xe ce) u s' := fun u s' z => by rw [hxb] at z; exact z
    refine wpAny_mono (pg.run _ s (wipe σ [i]) H' u v (fun σ2 H2 => σ2 = (wipe σ [i]).set i (some u) ∧ H2 = H') pinned rv ⟨rfl, rfl⟩) (fun _ s4 ⟨σ4, H4, J4, e4, e5⟩ => ?_) raise
    have e5 := e5.symm
    subst e4 e5
    refine wpAny_tests_nil ?_
    rw [if_pos rfl]
    have hsl : RepS X.K H' (sl.set i (some l[acc.length])) ((wipe σ [i]).set i (some u)) := (hs0.mono ext).wipe1 ru i
    have way := pe.mono _ _ _ _ _ (cX X.K cl (wAt W σ) H' ((wipe σ [i]).set i (some u))) (fun y m6 q z H6 r hm6 e6 => (⟨y, m6, r, hm6, e6, q⟩ : ∃ y m6, Rep X.K H6 y z ∧ Ab X.K cl H6 m6 ∧ Ext H' H6 ∧ P (acc ++ [y]) m6)) (fun ex m6 q c dd H6 r hm6 e6 => q c dd H6 r hm6 (ext.trans e6)) (Pstep acc _ m hd Pm)
    refine wpAny_mono (pe.run.run _ s4 _ H' (fun z H6 => ∃ y m6, Rep X.K H6 y z ∧ Ab X.K cl H6 m6 ∧ Ext H' H6 ∧ P (acc ++ [y]) m6) J4 ⟨_, m, hsl, hm, way⟩) (fun w s6 ⟨z, H6, J6, rz, y, m6, ry, hm6, e6, P6⟩ => ?_) raise
    have stay : ∀ b ∈ [D, it], ∀ o, s.heap.get? b = some o → s6.heap.get? b = some o ∧ H6 b = none := fun b hb o q => by
      obtain ⟨q1, q2, -⟩ := J6.pin (b, o) (List.mem_append_right _ (List.mem_append_right _ (mem_pinsAt hb q)))
      exact ⟨q1, q2⟩
    have len : (acc ++ [y]).length = acc.length + 1 := by simp
    refine ⟨⟨H6, m6, acc ++ [y], us ++ [z], J6.unpinned.weak ?_ ?_, fun b hb => ?_, hm6, ext.trans e6, P6, len, (ra.mono e6).append (.one ry), va.append (.cons rz .nil)⟩, ?_, ⟨nPl, (stay D (by simp) _ plD).1⟩⟩
    · rw [List.length_set]
    · intro j c q
      have neq : j ≠ i := fun z => (wipe_some (vs := [i]) q).2 (by simp [z])
      rw [List.getElem?_set_ne neq.symm]; exact q
    · rcases in_two hb with rfl | rfl
      · exact (stay _ (by simp) _ plD).2
      · exact (stay _ (by simp) _ gT).2
    · exact src.again (blkX X s2 H1 scope ce [D, it] xb) _ _ _ _ m6 _ _ rfl J6 hm6 (ext.trans e6) (PR _ _ (by rw [len]; exact hk) P6) st fun o q => (stay it (by simp) o q).1
  case fin =>
    rintro ys s ⟨H', m, acc, us, J, n0, hm, ext, Pm, el, ra, va⟩ ⟨cD, plD⟩
    have J0 : Inv X pins σ H' s := I2.call' (ch := [D, it]) J.os J.base J.hok J.bare fun b hb => ⟨(grd b hb).2.2.2.1, (grd b hb).2.1, (grd b hb).2.2.2.2.1, (grd b hb).2.2.2.2.2⟩
    have fD : FpOk X pins H' D := I2.fpOk nD (n0 D (by simp))
    have nG : X.s_0.heap.get? D = none := Option.eq_none_iff_forall_ne_some.mpr fun o q => absurd (Nat.lt_of_lt_of_le (Heap.lt_size q) (Nat.le_trans I2.sz nD)) (Nat.lt_irrefl _)
    have J1 := inv_adopt (o := .lst us) J0 fD.1 fD.2.1 fD.2.2.2.2.1 fD.2.2.2.2.2 nG ⟨by rw [← ra.length, el]; exact lim, ys, cD, va, plD⟩
    have freeC : upd H' D (.lst us) ce.locals = none := by rw [eL, upd_ne neDC.symm, ← eL]; exact J.free
    obtain ⟨mC, nsC, -⟩ := J.loc
    have m0 := hm.free (n0 D (by simp))
    exact fin D ce s _ acc m J1 (I2.fpOk (by rw [eL]; exact nC) freeC) ⟨mC, nsC⟩ (new_lst hm (n0 D (by simp)) ra) (ext.trans (Ext.new (n0 D (by simp)))) el Pm m0
/-! ### sources -/
/-- an iterator has come, with what it walks -/
def SrcAt (X : Cx) (cl : Cl) (pins : List (Addr × Obj)) (σ : L2.St) (tg : Expr) (H : Hp) (G : List D → (Mp → Prop) → Mp → Prop) (itv : Value) (s2 : Shared) : Prop :=
  ∃ it fp l R Y St H1 m1, itv = .ref it ∧ Inv X pins σ H1 s2 ∧ Src X cl tg it fp l R H1 Y St ∧ St 0 s2.heap ∧ (∀ b ∈ fp, b < s2.heap.objs.size) ∧ FpOk X pins H1 it ∧ l.length ≤ sizeLine ∧ Ab X.K cl H1 m1 ∧ Ext H H1 ∧ G l R m1
structure QSr (X : Cx) (cl : Cl) (W : WX) (tg a : Expr) (T : TI3) : Prop where
  mono : MonoI T
  run : ∀ (pins : List (Addr × Obj)) (s : Shared) (σ : L2.St) (H : Hp) (sl : S3) (m : Mp) (G : List D → (Mp → Prop) → Mp → Prop), Inv X pins σ H s → RepS X.K H sl σ → Ab X.K cl H m → T sl m G (cX X.K cl W H σ) →
    wpAny (model X.prog X.w) X.A (eval a X.env) (fun v s1 => wpAny (model X.prog X.w) X.A (pyIter v) (SrcAt X cl pins σ tg H G) X.xe s1) X.xe s
/-! ### the comprehension, told or kept under a name -/
theorem q_lcG {T : TI3} (tk : Takes X W) (hst : X.stack = X.env :: X.outer) (hef : X.env.frame = some X.env.locals) (hN : X.N.Nodup) (ha : QSr X cl W (.Name x p1) a T) (ok : BlkOk X.N X.env.scope scope [(x, i)]) (hcell : ∀ z ∈ scope.names, z.2 ≠ .cell)
    (hg : ∀ (s : Shared) (H : Hp) (C : Addr) (cz : List (Str × Addr)) (fp : List Addr) (xe : Value → Shared → Prop), PG (blkX X s H scope (compEnvC scope cz C X.env) fp xe) (.Name x p1) (gName i))
    (hb : ∀ (s : Shared) (H : Hp) (C : Addr) (cz : List (Str × Addr)) (fp : List Addr) (xe : Value → Shared → Prop) (σ : L2.St), Takes (blkX X s H scope (compEnvC scope cz C X.env) fp xe) (wAt W σ) → QE (blkX X s H scope (compEnvC scope cz C X.env) fp xe) cl (wAt W σ) e B)
    (hfs : ∀ z, foldedSetIterable a X.env z = pure z) : QE X cl W (.ListComp e [⟨.Name x p1, a, [], 0⟩] scope pos) (eLcG T i B) := by
  have mB : MonoE B := (hb X.s_0 X.H_0 0 [] [] (fun _ _ => True) [] fun _ _ _ => True.intro).mono
  refine ⟨mono_lcG ha.mono mB, ⟨fun pins s0 σ H Q I0 ⟨sl, m0, hs0, hm0, h⟩ => ?_⟩⟩
  refine ListComp_goes (blk_clos I0 ok) hcell ok.kind (fun y m q => (ok.uniq y m).trans (congrArg some q)) ?_ hfs
  refine wpAny_mono (ha.run pins s0 σ H sl m0 _ I0 hs0 hm0 h) (fun v s1 h1 => wpAny_mono h1 (fun itv s2 h2 => ?_) fun _ _ z => z) fun _ _ z => z
  obtain ⟨it, fp, l, R, Y, St, H1, m1, rfl, I2, src, st0, low, fit, lim, hm1, e1, P, P0, PR, Pstep, Pend⟩ := h2
  refine lc_turns tk hst hef hN ok hcell hg hb I2 src st0 low fit lim (hs0.mono e1) hm1 P0 PR (fun acc d m q z => mB _ _ _ _ _ _ (fun _ _ h => h) (fun ex m6 q c dd H6 r hm6 e6 => q c dd H6 r hm6 (e1.trans e6)) (Pstep acc d m q z)) fun q ce s H' acc m J fC ⟨mC, ns⟩ hm e2 len Pm mq => ?_
  exact ⟨mC, ns, fun h' sb => ⟨.ref q, H', J.turned (t' := s.toks) (it := ce.locals) (fun b o n q => (sb.2 b n).trans q) fC.1 fC.2.1 fC.2.2.2.1 fC.2.2.2.2.1 fC.2.2.2.2.2, rfl, Pend acc m len Pm q mq _ _ rfl hm (e1.trans e2)⟩⟩
end
end PV

/-! What a comprehension with a raising element may walk: a list, a tuple, range(n). -/
namespace PV
open PySem L2 PyProof.Rows
section
variable {X : Cx} {cl : Cl} {W : WX} {A : TE3} {R : TA3} {a tg : Expr} {p pos : Pos}
theorem src_list {H0 : Hp} {q it : Addr} {l : List D} (hh : X.A.handled = none) (ne : q ≠ it) : Src X cl tg it [it, q] l (fun m => RL m q l) H0 (YdV q) (StV it q l.length) where
  goes := goes_var hh ne _
  obj := fun i h ⟨⟨o, ho, _, hd⟩, _⟩ => ⟨o, ho, fun v z => by rw [hd] at z; cases z⟩
  item := by
    rintro Z pins σ H s m i v d hZ J hm - r hd ⟨its, hv, o, g, _, c, dat⟩
    obtain ⟨vs, sq, rp⟩ := hm.rl r
    obtain ⟨its2, va, ⟨o2, c2, g2, -, -, d2⟩, -⟩ := J.list (hZ ▸ sq)
    rw [g] at g2; cases g2
    rw [dat] at d2; cases d2
    obtain ⟨u, hu, ru⟩ := rp.get hd
    obtain ⟨v', hv', rv⟩ := va.get hu
    have : some v' = some v := by rw [← hv', ← hv]; simp
    cases this
    exact ⟨u, ru, rv⟩
  again := by
    rintro Z pins σ H s m i h hZ J hm - r ⟨⟨o, ho, c, d⟩, _⟩ stay
    obtain ⟨vs, sq, rp⟩ := hm.rl r
    obtain ⟨its2, va, ⟨o2, c2, g2, k2, -, d2⟩, -⟩ := J.list (hZ ▸ sq)
    exact ⟨⟨o, stay o ho, c, d⟩, its2.toArray, by rw [List.size_toArray, ← va.length, ← rp.length], o2, g2, k2, c2, d2⟩
/-- a tuple of n things is walked -/
def StT (I l : Addr) (n i : Nat) (h : Heap) : Prop := h.IsTupleIter I l i ∧ ∃ its : Array Value, its.size = n ∧ h.IsTuple l its
def YdT (l : Addr) (i : Nat) (v : Value) (h : Heap) : Prop := ∃ its : Array Value, its[i]? = some v ∧ h.IsTuple l its
theorem goes_varT {prog : Program} {w : World} {A : Around} {target : Expr} (hh : A.handled = none) {I l : Addr} (hne : l ≠ I) (n : Nat) : Goes prog w A target I [I, l] [I] n (YdT l) (StT I l n) := by
  have rule := fun its : Array Value => Goes.tuple (prog := prog) (w := w) (target := target) hh I l hne its
  constructor
  · exact (rule #[]).sub
  · rintro i h h' ⟨a, its, e, b⟩ keep
    obtain ⟨a', b'⟩ := (rule its).frame i h h' ⟨a, b⟩ keep
    exact ⟨a', its, e, b'⟩
  · rintro i s Q E hi ⟨a, its, rfl, b⟩ hQ
    refine (rule its).goes i s Q E hi ⟨a, b⟩ fun v h' tk hv st keep ht => ?_
    exact hQ v h' tk ⟨its, hv, st.2⟩ ⟨st.1, its, rfl, st.2⟩ keep ht
  · rintro s Q E ⟨a, its, rfl, b⟩ hQ
    exact (rule its).stops s Q E ⟨a, b⟩ hQ
  · rintro i s Q E ⟨a, its, rfl, b⟩ q
    exact (rule its).self i s Q E ⟨a, b⟩ q
theorem src_tup {H0 : Hp} {q it : Addr} {l : List D} {vs : List V} (hh : X.A.handled = none) (ne : q ≠ it) (sq : SqT X.K H0 q vs) (rp : Reps X.K H0 l vs) : Src X cl tg it [it, q] l (fun _ => True) H0 (YdT q) (StT it q l.length) where
  goes := goes_varT hh ne _
  obj := fun i h ⟨⟨o, ho, _, hd⟩, _⟩ => ⟨o, ho, fun v z => by rw [hd] at z; cases z⟩
  item := by
    rintro Z pins σ H s m i v d hZ J hm e0 - hd ⟨its, hv, o, g, _, n1, dat⟩
    obtain ⟨its2, va, ⟨o2, g2, -, n2, d2⟩, -⟩ := J.tuple (hZ ▸ e0.sqT sq)
    rw [g] at g2; cases g2
    rw [dat] at d2; cases d2
    obtain ⟨u, hu, ru⟩ := (rp.mono e0).get hd
    obtain ⟨v', hv', rv⟩ := va.get hu
    have : some v' = some v := by rw [← hv', ← hv]; simp
    cases this
    exact ⟨u, ru, rv⟩
  again := by
    rintro Z pins σ H s m i h hZ J hm e0 - ⟨⟨o, ho, c, d⟩, _⟩ stay
    obtain ⟨its2, va, tup, -⟩ := J.tuple (hZ ▸ e0.sqT sq)
    exact ⟨⟨o, stay o ho, c, d⟩, its2.toArray, by rw [List.size_toArray, ← va.length, ← rp.length], tup⟩
/-- a list, a tuple: walked by a comprehension whose element may raise -/
def iGo (A : TE3) : TI3 := fun s m k x => A s m (fun d m1 => (∃ q l, d = .ref q ∧ RL m1 q l ∧ k l (fun m => RL m q l) m1) ∨ ∃ l, d = .tup l ∧ k l (fun _ => True) m1) x
theorem x_go {s : S3} {m : Mp} {k : List D → (Mp → Prop) → Mp → Prop} {x : X3} (h : A s m (fun d m1 => (∃ q l, d = .ref q ∧ RL m1 q l ∧ k l (fun m => RL m q l) m1) ∨ ∃ l, d = .tup l ∧ k l (fun _ => True) m1) x) : iGo A s m k x := h
theorem sr_go (hc : X.calm = true) (ha : QE X cl W a A) : QSr X cl W tg a (iGo A) where
  mono := fun s m k k' x x' hk hx h => ha.mono _ _ _ _ _ _ (fun d m1 z => z.imp (fun ⟨q, l, e, r, w⟩ => ⟨q, l, e, r, hk _ _ _ w⟩) fun ⟨l, e, w⟩ => ⟨l, e, hk _ _ _ w⟩) hx h
  run := fun pins s0 σ H sl m G I hs0 hm0 h => by
    refine wpAny_mono (ha.run.run pins s0 σ H (fun v H1 => ∃ d m1, Rep X.K H1 d v ∧ Ab X.K cl H1 m1 ∧ Ext H H1 ∧ ((∃ q l, d = .ref q ∧ RL m1 q l ∧ G l (fun m => RL m q l) m1) ∨ ∃ l, d = .tup l ∧ G l (fun _ => True) m1)) I
      ⟨sl, m, hs0, hm0, ha.mono _ _ _ _ _ _ (fun d m1 z v H1 r hm1 e => ⟨d, m1, r, hm1, e, z⟩) (fun _ _ z => z) h⟩) ?_ fun _ _ z => z
    rintro u s1 ⟨v, H1, I1, rv, d, m1, r, hm1, e1, ⟨q, l, rfl, rl, g⟩ | ⟨l, rfl, g⟩⟩
    · obtain rfl : v = .ref q := r
      cases rv
      obtain ⟨vs, sq, rps⟩ := hm1.rl rl
      obtain ⟨its, vals, pl, lim⟩ := I1.list sq
      have there := Heap.lt_size pl.isList.choose_spec.1
      refine wpAny_pyIter_list pl.isList ?_
      have ne : q ≠ s1.heap.objs.size := Nat.ne_of_lt there
      have keep : ∀ b o, s1.heap.get? b = some o → (s1.heap.push { cls := .type "list_iterator", data := .fields #[.ref q, .int 0 0] }).get? b = some o := fun _ _ => Heap.get?_push_of_some _
      have low : ∀ b, b ≤ s1.heap.objs.size → b < (s1.heap.push { cls := .type "list_iterator", data := .fields #[.ref q, .int 0 0] }).objs.size := fun b z => by rw [size_push']; exact Nat.lt_succ_of_le z
      refine ⟨s1.heap.objs.size, _, l, _, _, _, H1, m1, rfl, I1.kept (t' := s1.toks) keep, src_list (I.ok.hd hc) ne, ⟨⟨_, Heap.get?_push_size _ rfl, rfl, rfl⟩, its.toArray, by rw [List.size_toArray, ← vals.length, ← rps.length], pl.isList.imp fun o z => ⟨keep _ _ z.1, z.2⟩⟩, fun b hb => ?_, I1.fpOk (Nat.le_refl _) (I1.hok.fresh (Nat.le_refl _)), rps.length ▸ lim, hm1, e1, g⟩
      rcases in_two hb with rfl | rfl
      · exact low _ (Nat.le_refl _)
      · exact low _ (Nat.le_of_lt there)
    · obtain ⟨q, vs, rfl, sq, rps⟩ := r
      cases rv
      obtain ⟨its, vals, tup, lim⟩ := I1.tuple sq
      obtain ⟨o, g0, k0⟩ := id tup
      have there := Heap.lt_size g0
      refine wpAny_pyIter_tuple (show s1.heap.IsTuple q its.toArray from tup) ?_
      have ne : q ≠ s1.heap.objs.size := Nat.ne_of_lt there
      have keep : ∀ b o, s1.heap.get? b = some o → (s1.heap.push { cls := .type "tuple_iterator", data := .fields #[.ref q, .int 0 0] }).get? b = some o := fun _ _ => Heap.get?_push_of_some _
      have low : ∀ b, b ≤ s1.heap.objs.size → b < (s1.heap.push { cls := .type "tuple_iterator", data := .fields #[.ref q, .int 0 0] }).objs.size := fun b z => by rw [size_push']; exact Nat.lt_succ_of_le z
      refine ⟨s1.heap.objs.size, _, l, _, _, _, H1, m1, rfl, I1.kept (t' := s1.toks) keep, src_tup (I.ok.hd hc) ne sq rps, ⟨⟨_, Heap.get?_push_size _ rfl, rfl, rfl⟩, its.toArray, by rw [List.size_toArray, ← vals.length, ← rps.length], ⟨o, keep _ _ g0, k0⟩⟩, fun b hb => ?_, I1.fpOk (Nat.le_refl _) (I1.hok.fresh (Nat.le_refl _)), rps.length ▸ lim, hm1, e1, g⟩
      rcases in_two hb with rfl | rfl
      · exact low _ (Nat.le_refl _)
      · exact low _ (Nat.le_of_lt there)
/-! ### range(n) -/
theorem src_rng {H0 : Hp} {it : Addr} {n : Nat} (hh : X.A.handled = none) : Src X cl tg it [it] (rngD 0 1 n) (fun _ => True) H0 (fun i v _ => ∃ t, v = .int (0 + (i : Nat) * 1) t) (fun i h => IsRangeIter h it (0 + (i : Nat) * 1) ((n : Int) - (i : Nat)) 1) where
  goes := by rw [rngD_length]; exact Goes.range hh it 0 1 n
  obj := fun i h z => ⟨_, z, fun v y => nomatch (show Data.fields _ = Data.cell v from y)⟩
  item := by
    rintro Z pins σ H s m i v d hZ J hm - - hd ⟨t, rfl⟩
    obtain ⟨-, rfl⟩ := rngD_get hd
    exact ⟨_, rfl, t, rfl⟩
  again := fun Z pins σ H s m i h hZ J hm _ _ z stay => stay _ z
/-- range(n), n no more than a million -/
def iGr (R : TA3) : TI3 := fun s m k x => R s m (fun ds m1 => ∃ n : Nat, ds = [.int (n : Int)] ∧ n ≤ 1000000 ∧ k (rngD 0 1 n) (fun _ => True) m1) x
theorem x_gr {s : S3} {m : Mp} {k : List D → (Mp → Prop) → Mp → Prop} {x : X3} (h : R s m (fun ds m1 => ∃ n : Nat, ds = [.int (n : Int)] ∧ n ≤ 1000000 ∧ k (rngD 0 1 n) (fun _ => True) m1) x) : iGr R s m k x := h
theorem sr_rng (hc : X.calm = true) (hg : Gl X "range") (hm : X.mg "range" = none) (ha : QA X cl W [a] R) (hs : starEach [a] X.env = [(false, eval a X.env)]) : QSr X cl W tg (.Call (.Name "range" p) [a] [] pos) (iGr R) where
  mono := fun s m k k' x x' hk hx h => ha.mono _ _ _ _ _ _ (fun ds m1 ⟨j, e, z, w⟩ => ⟨j, e, z, hk _ _ _ w⟩) hx h
  run := fun pins s0 σ H sl m G I hs0 hm0 h => by
    have args := ha.run.run pos pins s0 σ H (fun vs H1 => ∃ (n : Nat) (m1 : Mp), vs = [.int (n : Int)] ∧ n ≤ 1000000 ∧ Ab X.K cl H1 m1 ∧ Ext H H1 ∧ G (rngD 0 1 n) (fun _ => True) m1) I
      ⟨sl, m, hs0, hm0, ha.mono _ _ _ _ _ _ (fun ds m1 ⟨j, e, b, z⟩ vs H1 r hm1 e1 => by
        subst e
        obtain ⟨v, rfl, q⟩ := reps1 r
        cases q
        exact ⟨j, m1, rfl, b, hm1, e1, z⟩) (fun _ _ z => z) h⟩
    refine Call_ (ld_blt I hg hm PyProof.Rows.boot_range (PyProof.Rows.callWith_type1 (wpAny_mono args ?_ fun _ _ z => z) hs rfl))
    rintro us s1 ⟨_, H1, I1, r, n, m1, rfl, lim, hm1, e1, g⟩
    match us, r with
    | [_], .cons ⟨t, rfl⟩ .nil =>
      have len : Builtin.Range.rangeSize 0 (n : Int) 1 = (n : Int) := by rw [rangeSize_one]; split <;> omega
      refine call_range_1 (wpAny_pyIter_range (IsRange.new _ _ _ _ _ _ _) (small_one (by decide) (by decide) (by omega) (by omega)) ?_)
      rw [len]
      have old : s1.heap.objs.size ≤ (s1.heap.push { cls := .type "range", data := .fields #[.int 0 s1.toks, .int (n : Int) t, .int 1 (s1.toks + 1)] }).objs.size := by rw [size_push']; exact Nat.le_succ _
      refine ⟨_, _, rngD 0 1 n, _, _, _, H1, m1, rfl, I1.kept fun b o e => Heap.get?_push_of_some _ (Heap.get?_push_of_some _ e), src_rng (I.ok.hd hc), ?_, fun b hb => ?_, I1.fpOk old (I1.hok.fresh old), ?_, hm1, e1, g⟩
      · show Heap.get? _ _ = _
        exact (Heap.get?_push_size _ rfl).trans (by simp)
      · rw [List.mem_singleton.mp hb]
        show _ < (Heap.push _ _).objs.size
        rw [size_push' (h := Heap.push _ _)]; exact Nat.lt_succ_self _
      · rw [rngD_length]; exact Nat.le_trans lim (by decide)
end
end PV

/-! y = [a call that may raise for x in ..] -/
namespace PV
open PySem L2 PyProof.Rows
section
variable {X : Cx} {cl : Cl} {W : WX} {B : TE3} {i : Nat} {x : Str} {a e : Expr} {scope : Scope} {p1 pos : Pos}
theorem qs_lcG {T : TI3} {y : Str} {py spos : Pos} {n : Nat} (tk : Takes X W) (hst : X.stack = X.env :: X.outer) (hef : X.env.frame = some X.env.locals) (hN : X.N.Nodup) (hy : PG X (.Name y py) (gName n))
    (hsw : swapsWith (.ListComp e [⟨.Name x p1, a, [], 0⟩] scope pos) (some (.Name y py)) spos.line X.env = pure true) (ha : QSr X cl W (.Name x p1) a T) (ok : BlkOk X.N X.env.scope scope [(x, i)]) (hcell : ∀ z ∈ scope.names, z.2 ≠ .cell)
    (hg : ∀ (s : Shared) (H : Hp) (C : Addr) (cz : List (Str × Addr)) (fp : List Addr) (xe : Value → Shared → Prop), PG (blkX X s H scope (compEnvC scope cz C X.env) fp xe) (.Name x p1) (gName i))
    (hb : ∀ (s : Shared) (H : Hp) (C : Addr) (cz : List (Str × Addr)) (fp : List Addr) (xe : Value → Shared → Prop) (σ : L2.St), Takes (blkX X s H scope (compEnvC scope cz C X.env) fp xe) (wAt W σ) → QE (blkX X s H scope (compEnvC scope cz C X.env) fp xe) cl (wAt W σ) e B)
    (hfs : ∀ z, foldedSetIterable a X.env z = pure z) : QS X cl W (.Assign [.Name y py] (.ListComp e [⟨.Name x p1, a, [], 0⟩] scope pos) spos) (sAsg (eLcG T i B) (gNm n)) := by
  have mB : MonoE B := (hb X.s_0 X.H_0 0 [] [] (fun _ _ => True) [] fun _ _ _ => True.intro).mono
  refine ⟨fun s m D D' l q => mono_lcG ha.mono mB _ _ _ _ _ _ (fun _ _ z => l.nx _ _ z) (fun _ _ z => l.ex _ _ _ z) q, ⟨fun pins s0 σ H D I0 ⟨sl, m0, hs0, hm0, h⟩ => ?_⟩⟩
  have h : eLcG T i B sl m0 (fun d m1 => (cN X.K cl W H D).nx (sl.set n (some d)) m1) (cX X.K cl W H σ) := mono_lcG ha.mono mB _ _ _ _ _ _ (fun _ _ z => z) (fun _ _ z => ex_cX hs0 z) h
  refine Assign_ListComp_goes hsw (blk_clos I0 ok) hcell ok.kind (fun y m q => (ok.uniq y m).trans (congrArg some q)) ?_ hfs
  refine wpAny_mono (ha.run pins s0 σ H sl m0 _ I0 hs0 hm0 h) (fun v s1 h1 => wpAny_mono h1 (fun itv s2 h2 => ?_) fun _ _ z => z) fun _ _ z => z
  obtain ⟨it, fp, l, R, Y, St, H1, m1, rfl, I2, src, st0, low, fit, lim, hm1, e1, P, P0, PR, Pstep, Pend⟩ := h2
  refine lc_turns tk hst hef hN ok hcell hg hb I2 src st0 low fit lim (hs0.mono e1) hm1 P0 PR (fun acc d m q z => mB _ _ _ _ _ _ (fun _ _ h => h) (fun ex m6 q c dd H6 r hm6 e6 => q c dd H6 r hm6 (e1.trans e6)) (Pstep acc d m q z)) fun q ce s H' acc m J fC ⟨mC, ns⟩ hm e2 len Pm mq => ?_
  obtain ⟨oC, _, _, gC, dC, _⟩ := id ns
  have pinned := J.pinned (fp := [ce.locals]) (fun b hb => by rw [List.mem_singleton.mp hb]; exact fC) fun b hb => ⟨oC, by rw [List.mem_singleton.mp hb]; exact gC, fun v z => by rw [dC] at z; cases z⟩
  show wpAny _ X.A (assign (.Name y py) X.env (.ref q)) _ _ s
  refine wpAny_mono (hy.run _ s σ H' (.ref q) (.ref q) (fun σ2 H2 => σ2 = σ.set n (some (.ref q)) ∧ H2 = H') pinned rfl ⟨rfl, rfl⟩) (fun _ s5 ⟨σ5, H5, J5, e5, e6⟩ => ?_) fun _ _ z => z
  subst e5 e6
  refine ⟨mC, ns.at fun o z => (J5.pin (ce.locals, o) (List.mem_append_right _ (List.mem_append_right _ (mem_pinsAt (by simp) z)))).1, fun h' sb => ⟨_, _, J5.unpinned.turned (t' := s5.toks) (it := ce.locals) (fun b o n q => (sb.2 b n).trans q) fC.1 fC.2.1 fC.2.2.2.1 fC.2.2.2.2.1 fC.2.2.2.2.2, ?_⟩⟩
  exact Pend acc m len Pm q mq _ _ ((hs0.mono (e1.trans e2)).set (show Rep X.K _ (.ref q) (.ref q) from rfl) n) hm (e1.trans e2)
end
end PV

/-! tuple(range(n)), n a literal. -/
namespace PV
open PySem L2 PyProof.Rows
section
variable {X : Cx} {cl : Cl} {W : WX} {p p2 pos pos2 pos3 : Pos}
theorem rng_ints {n : Int} : rngD 0 1 n.toNat = ((List.range n.toNat).map fun (i : Nat) => (i : Int)).map D.int := by
  unfold rngD
  rw [List.map_map]
  refine List.map_congr_left fun i _ => ?_
  show D.int (0 + (i : Int) * 1) = D.int (i : Int)
  rw [Int.mul_one, Int.zero_add]
theorem rg_ints {n : Int} : rgV 0 n = ((List.range n.toNat).map fun (i : Nat) => (i : Int)).map V.int := by
  unfold rgV
  rw [List.map_map, Int.sub_zero]
  refine List.map_congr_left fun i _ => ?_
  show V.int (0 + (i : Int)) = V.int (i : Int)
  rw [Int.zero_add]
theorem q_tupR {n : Int} {j} (h0 : (0 ≤ n ∧ n ≤ 16777216)) (hc : X.calm = true) (hg : Gl X "tuple") (hm : X.mg "tuple" = none) (hg2 : Gl X "range") (hm2 : X.mg "range" = none)
    (na : starEach [.Constant (.int n) j pos3] X.env = (false, eval (.Constant (.int n) j pos3) X.env) :: starEach [] X.env := by rfl)
    (nb : starEach [.Call (.Name "range" p2) [.Constant (.int n) j pos3] [] pos2] X.env = (false, eval (.Call (.Name "range" p2) [.Constant (.int n) j pos3] [] pos2) X.env) :: starEach [] X.env := by rfl) :
    QE X cl W (.Call (.Name "tuple" p) [.Call (.Name "range" p2) [.Constant (.int n) j pos3] [] pos2] [] pos) (eLit (.tup (rngD 0 1 n.toNat))) :=
  ⟨mono_lit, PE.imp (pe_tupRg hc hg hm (prg_1 hg2 hm2 pe_int na) nb) fun σ H Q ⟨s, m, hs, hm, h1⟩ =>
    ⟨n, rfl, RgOk.of_le (by decide) h0.2 (by decide) h0.1, fun q hq => h1 (.ref q) _ (rep_tup hq (by rw [rng_ints, rg_ints]; exact Reps.ofInts)) (hm.hid hq) (Ext.new hq)⟩⟩
end
end PV

/-! str.split of one text, str.count. -/
namespace PV
open PySem L2 PyProof.Rows
section
variable {X : Cx} {cl : Cl}
def fSplit (o : D) (ds : List D) (m : Mp) (k : K3) : Prop := ∃ z y : Str, o = .str z ∧ ds = [.str y] ∧ (y.length == 0) = false ∧ z.length + 2 ≤ sizeLine ∧ ∀ p, m p = none → k (.ref p) (mset m p (.lst ((Txt.split z y).map D.str)))
theorem reps_strs {K : PySem.W.Frag} {H : Hp} : ∀ {ys : List Str}, Reps K H (ys.map D.str) (ys.map V.str)
  | [] => rfl
  | y :: ys => ⟨_, _, rfl, rfl, reps_strs⟩
theorem up_split : UpM X cl fSplit (fun x xs H Q => ∃ a b, x = .str a ∧ xs = [.str b] ∧ (b.length == 0) = false ∧ a.length + 2 ≤ sizeLine ∧ rNewStrs (Txt.split a b) H Q) := fun H m o v ds vs Q r1 r2 hm ⟨z, y, e1, e2, h1, h2, h⟩ => by
  subst e1 e2
  have r' : v = .str z := r1
  subst r'
  obtain ⟨w, rfl, rw⟩ := reps1 r2
  cases rw
  exact ⟨z, y, rfl, rfl, h1, h2, fun p hp => h p (hm.free hp) _ _ rfl (new_lst hm hp reps_strs) (Ext.new hp)⟩
theorem mono_split : MonoM fSplit := fun o ds m k k' hk ⟨z, y, e1, e2, h1, h2, h⟩ => ⟨z, y, e1, e2, h1, h2, fun p hp => hk _ _ (h p hp)⟩
def fCntS (o : D) (ds : List D) (m : Mp) (k : K3) : Prop := ∃ z y : Str, o = .str z ∧ ds = [.str y] ∧ k (.int (Txt.count z y)) m
theorem up_cntS : UpM X cl fCntS (fun x xs H Q => ∃ a b, x = .str a ∧ xs = [.str b] ∧ Q (.int (Txt.count a b)) H) := fun H m o v ds vs Q r1 r2 hm ⟨z, y, e1, e2, h⟩ => by
  subst e1 e2
  have r' : v = .str z := r1
  subst r'
  obtain ⟨w, rfl, rw⟩ := reps1 r2
  cases rw
  exact ⟨z, y, rfl, rfl, h _ _ rfl hm (Ext.refl H)⟩
theorem mono_cntS : MonoM fCntS := fun o ds m k k' hk ⟨z, y, e1, e2, h⟩ => ⟨z, y, e1, e2, hk _ _ h⟩
/-! texts: > -/
def fGtS : D → D → Mp → K3 → Prop := fun u v m k => ∃ i j : Str, u = .str i ∧ v = .str j ∧ k (.bl (decide (j.cps.toList < i.cps.toList))) m
theorem mono_gtS : MonoF fGtS := fun u v m k k' hk ⟨i, j, e1, e2, h⟩ => ⟨i, j, e1, e2, hk _ _ h⟩
theorem op_gtS : OpR X (compareOp .Gt) (fun x y H Q => ∃ i j, x = .str i ∧ y = .str j ∧ Q (.bl (decide (j.cps.toList < i.cps.toList))) H) := by
  intro pins s σ H x y v u Q I rx ry ⟨i, j, e1, e2, q⟩
  subst e1 e2
  obtain ⟨t, rfl⟩ := rx
  obtain ⟨t', rfl⟩ := ry
  exact PySem.P.gt_str ⟨.bl _, H, I, rfl, q⟩
theorem up_gtS (H : Hp) (m : Mp) (u v : D) (x y : V) (Q : VK) (rx : Rep X.K H u x) (ry : Rep X.K H v y) (hm : Ab X.K cl H m) (h : fGtS u v m (cE X.K cl H Q)) : ∃ i j, x = .str i ∧ y = .str j ∧ Q (.bl (decide (j.cps.toList < i.cps.toList))) H := by
  obtain ⟨i, j, e1, e2, h⟩ := h
  subst e1 e2
  exact ⟨i, j, rx, ry, h _ _ rfl hm (Ext.refl H)⟩
theorem q_gtS {W : WX} {a b : Expr} {A B : TE3} {pos : Pos} (ha : QE X cl W a A) (hb : QE X cl W b B) : QE X cl W (.Compare a [.Gt] [b] pos) (eBin fGtS A B) := q_cmp op_gtS up_gtS mono_gtS ha hb (nomark _)
theorem t_gtS {W : WX} {a b : Expr} {A B : TE3} {pos : Pos} (ha : QE X cl W a A) (hb : QE X cl W b B) : QT X cl W (.Compare a [.Gt] [b] pos) (tBv (eBin fGtS A B)) := t_cmp op_gtS up_gtS mono_gtS ha hb (nomark _)
/-! str(..) of a number or a text -/
def fStrX : List D → Mp → K3 → Prop := fun ds m k => (∃ i : Int, ds = [.int i] ∧ i.natAbs.log2 < 1920 ∧ k (.str (toString i)) m) ∨ ∃ z : Str, ds = [.str z] ∧ k (.str z) m
theorem q_strX {W : WX} {a : Expr} {rest : List Expr} {R : TA3} {p pos : Pos} (hg : Gl X "str") (hm : X.mg "str" = none) (ha : QA X cl W (a :: rest) R) (he : starEach (a :: rest) X.env = (false, eval a X.env) :: starEach rest X.env) (hpl : (backTo pos (starEach rest X.env)).any (·.1) = false) :
    QE X cl W (.Call (.Name "str" p) (a :: rest) [] pos) (eCB fStrX R) :=
  q_cty (call_str_int.or SkE.call_str_str) (fun H m ds vs Q r hm h => by
    rcases h with ⟨i, e, h1, h2⟩ | ⟨i, e, h2⟩ <;> subst e <;> obtain ⟨v, rfl, q⟩ := reps1 r <;> cases q
    · exact .inl ⟨i, rfl, h1, h2 _ _ rfl hm (Ext.refl H)⟩
    · exact .inr ⟨i, rfl, h2 _ _ rfl hm (Ext.refl H)⟩) (fun ds m k k' hk h => by
    rcases h with ⟨z, e, h1, h2⟩ | ⟨z, e, h2⟩
    · exact .inl ⟨z, e, h1, hk _ _ h2⟩
    · exact .inr ⟨z, e, hk _ _ h2⟩) (by decide +kernel) (by decide) (by decide) hg hm ha he hpl
end
theorem xf_strX {n : Int} {m : Mp} {k : K3} (h0 : n.natAbs.log2 < 1920) (h : k (.str (toString n)) m) : fStrX [.int n] m k := .inl ⟨n, rfl, h0, h⟩
theorem xf_strXs {z : Str} {m : Mp} {k : K3} (h : k (.str z) m) : fStrX [.str z] m k := .inr ⟨z, rfl, h⟩
theorem xf_gtS {i j : Str} {m : Mp} {k : K3} (h : k (.bl (decide (j.cps.toList < i.cps.toList))) m) : fGtS (.str i) (.str j) m k := ⟨i, j, rfl, rfl, h⟩
theorem xf_split {z : Str} {c : Nat} {m : Mp} {k : K3} (h1 : z.cps.toList.length ≤ 100000) (h : ∀ p, m p = none → k (.ref p) (mset m p (.lst ((Txt.split z ⟨#[c]⟩).map D.str)))) : fSplit (.str z) [.str ⟨#[c]⟩] m k :=
  ⟨z, _, rfl, rfl, rfl, by rw [str_len]; exact Nat.le_trans (show z.cps.toList.length + 2 ≤ 100002 by omega) (by decide), h⟩
theorem xf_cntS {z y : Str} {m : Mp} {k : K3} (h : k (.int (Txt.count z y)) m) : fCntS (.str z) [.str y] m k := ⟨z, y, rfl, rfl, h⟩
end PV

/-! Tuples of the module; all(..), any(..) of a list of truths. -/
namespace PV
open PySem L2 PyProof.Rows
section
variable {X : Cx} {cl : Cl} {W : WX} {pos : Pos}
/-- a tuple that the module keeps -/
def TupK (K : PySem.W.Frag) (a : Addr) (vs : List V) : Prop := ∃ (o : Obj) (its : Array Value) (n : Nat), K.lookup a = some o ∧ o.cls = .type "tuple" ∧ o.data = .seq its n ∧ its.size ≤ sizeLine ∧ Vals vs its.toList
theorem q_conT {x : Str} {l : List D} {vs : List V} (hg : Gl X x) (hm : ∃ a, X.mg x = some (.ref a) ∧ TupK X.K a vs) (q : ∀ H, Reps X.K H l vs) (hd : (x == ("__debug__" : Str)) = false) : QE X cl W (.Name x pos) (eLit (.tup l)) := by
  obtain ⟨a, h1, h2⟩ := hm
  exact q_glob (v := .ref a) hg h1 rfl (fun H => ⟨a, vs, rfl, .inr h2, q H⟩) hd
/-! ### all, any -/
theorem truths {bs : List Bool} {us : List Value} (r : Vals (bs.map V.bl) us) {i : Nat} {u : Value} (h : us[i]? = some u) : u = .bool (bs.getD i false) := by
  induction bs generalizing us i with
  | nil => cases r; simp at h
  | cons b bs ih =>
    cases r with
    | cons q t =>
      cases i with
      | zero =>
        rw [List.getElem?_cons_zero] at h
        rw [← Option.some.inj h]
        exact q
      | succ i => simpa using ih t (by simpa using h)
theorem truth_of {prog : Program} {w : World} {A : Around} {bs : List Bool} {us : List Value} (r : Vals (bs.map V.bl) us) : TruthOf prog w A (fun i v => us.toArray[i]? = some v) (fun i => bs.getD i false) := fun i v s Q E h q => by
  have h' : us[i]? = some v := by simpa using h
  rw [truths r h']
  exact wpAny_truthy_bool q
theorem range_all {bs : List Bool} : (List.range bs.length).all (fun i => bs.getD i false) = bs.all id := by
  induction bs with
  | nil => rfl
  | cons b bs ih =>
    rw [List.length_cons, List.range_succ_eq_map, List.all_cons, List.all_map, List.all_cons]
    exact congrArg (b && ·) ih
theorem range_any {bs : List Bool} : (List.range bs.length).any (fun i => bs.getD i false) = bs.any id := by
  induction bs with
  | nil => rfl
  | cons b bs ih =>
    rw [List.length_cons, List.range_succ_eq_map, List.any_cons, List.any_map, List.any_cons]
    exact congrArg (b || ·) ih
theorem cr_all (hc : X.calm = true) : CallR X (.builtin "all") (fun xs H Q => ∃ q, ∃ bs : List Bool, xs = [.ref q] ∧ SqL X.K H q (bs.map V.bl) ∧ Q (.bl (bs.all id)) H) := by
  intro pins s σ H xs us Q I r ⟨q, bs, e, hq, hQ⟩
  subst e
  obtain ⟨u, rfl, r1⟩ := vals1 r
  cases r1
  obtain ⟨its, rv, pl, hz⟩ := I.list hq
  have hl := pl.isList
  have hn : its.length = bs.length := by rw [← rv.length, List.length_map]
  have lt := let ⟨_, ho, _⟩ := hl; Heap.lt_size ho
  refine call_all_walk (wpAny_pyIter_list hl ?_)
  refine ⟨s.heap.objs.size, _, _, _, _, _, fun i => bs.getD i false, rfl, Walks.list (prog := X.prog) (w := X.w) (A := X.A.in1) (I.ok.hd hc) s.heap.objs.size q (Nat.ne_of_lt lt) its.toArray, ⟨⟨_, Heap.get?_push_size _ rfl, rfl, rfl⟩, hl.at fun o e => Heap.get?_push_of_some _ e⟩, truth_of rv, fun h' tk hk => ?_⟩
  rw [show its.toArray.size = bs.length by rw [List.size_toArray, hn], range_all]
  exact ⟨.bl _, H, I.kept fun b o e => hk b o (by simpa using Nat.ne_of_lt (Heap.lt_size e)) (Heap.get?_push_of_some _ e), rfl, hQ⟩
theorem cr_any (hc : X.calm = true) : CallR X (.builtin "any") (fun xs H Q => ∃ q, ∃ bs : List Bool, xs = [.ref q] ∧ SqL X.K H q (bs.map V.bl) ∧ Q (.bl (bs.any id)) H) := by
  intro pins s σ H xs us Q I r ⟨q, bs, e, hq, hQ⟩
  subst e
  obtain ⟨u, rfl, r1⟩ := vals1 r
  cases r1
  obtain ⟨its, rv, pl, hz⟩ := I.list hq
  have hl := pl.isList
  have hn : its.length = bs.length := by rw [← rv.length, List.length_map]
  have lt := let ⟨_, ho, _⟩ := hl; Heap.lt_size ho
  refine call_any_walk (wpAny_pyIter_list hl ?_)
  refine ⟨s.heap.objs.size, _, _, _, _, _, fun i => bs.getD i false, rfl, Walks.list (prog := X.prog) (w := X.w) (A := X.A.in1) (I.ok.hd hc) s.heap.objs.size q (Nat.ne_of_lt lt) its.toArray, ⟨⟨_, Heap.get?_push_size _ rfl, rfl, rfl⟩, hl.at fun o e => Heap.get?_push_of_some _ e⟩, truth_of rv, fun h' tk hk => ?_⟩
  rw [show its.toArray.size = bs.length by rw [List.size_toArray, hn], range_any]
  exact ⟨.bl _, H, I.kept fun b o e => hk b o (by simpa using Nat.ne_of_lt (Heap.lt_size e)) (Heap.get?_push_of_some _ e), rfl, hQ⟩
theorem reps_bls {K : PySem.W.Frag} {H : Hp} : ∀ {bs : List Bool} {vs : List V}, Reps K H (bs.map D.bl) vs → vs = bs.map V.bl
  | [], vs, h => h
  | b :: bs, vs, h => by
    obtain ⟨v, ws, rfl, h1, h2⟩ := h
    have h1' : v = .bl b := h1
    rw [h1', reps_bls h2]; rfl
def fAll : List D → Mp → K3 → Prop := fun ds m k => ∃ q, ∃ bs : List Bool, ds = [.ref q] ∧ RL m q (bs.map D.bl) ∧ k (.bl (bs.all id)) m
def fAny : List D → Mp → K3 → Prop := fun ds m k => ∃ q, ∃ bs : List Bool, ds = [.ref q] ∧ RL m q (bs.map D.bl) ∧ k (.bl (bs.any id)) m
theorem q_all {a : Expr} {rest : List Expr} {R : TA3} {p : Pos} (hc : X.calm = true) (hg : Gl X "all") (hm : X.mg "all" = none) (ha : QA X cl W (a :: rest) R) (he : starEach (a :: rest) X.env = (false, eval a X.env) :: starEach rest X.env) (hpl : (backTo pos (starEach rest X.env)).any (·.1) = false) :
    QE X cl W (.Call (.Name "all" p) (a :: rest) [] pos) (eCB fAll R) :=
  q_cb (cr_all hc) (fun H m ds vs Q r hm ⟨i, bs, e, h1, h2⟩ => by
    subst e
    obtain ⟨v, rfl, q⟩ := reps1 r
    cases q
    obtain ⟨ws, q1, q2⟩ := hm.rl h1
    have e := reps_bls q2
    subst e
    exact ⟨i, bs, rfl, q1, h2 _ _ rfl hm (Ext.refl H)⟩) (fun ds m k k' hk ⟨z, j, e, h1, h2⟩ => ⟨z, j, e, h1, hk _ _ h2⟩) (by decide +kernel) (by decide) (by decide) hg hm ha he hpl
theorem q_any {a : Expr} {rest : List Expr} {R : TA3} {p : Pos} (hc : X.calm = true) (hg : Gl X "any") (hm : X.mg "any" = none) (ha : QA X cl W (a :: rest) R) (he : starEach (a :: rest) X.env = (false, eval a X.env) :: starEach rest X.env) (hpl : (backTo pos (starEach rest X.env)).any (·.1) = false) :
    QE X cl W (.Call (.Name "any" p) (a :: rest) [] pos) (eCB fAny R) :=
  q_cb (cr_any hc) (fun H m ds vs Q r hm ⟨i, bs, e, h1, h2⟩ => by
    subst e
    obtain ⟨v, rfl, q⟩ := reps1 r
    cases q
    obtain ⟨ws, q1, q2⟩ := hm.rl h1
    have e := reps_bls q2
    subst e
    exact ⟨i, bs, rfl, q1, h2 _ _ rfl hm (Ext.refl H)⟩) (fun ds m k k' hk ⟨z, j, e, h1, h2⟩ => ⟨z, j, e, h1, hk _ _ h2⟩) (by decide +kernel) (by decide) (by decide) hg hm ha he hpl
end
theorem xf_all {q : Addr} {bs : List Bool} {m : Mp} {k : K3} (h1 : RL m q (bs.map D.bl)) (h : k (.bl (bs.all id)) m) : fAll [.ref q] m k := ⟨q, bs, rfl, h1, h⟩
theorem xf_any {q : Addr} {bs : List Bool} {m : Mp} {k : K3} (h1 : RL m q (bs.map D.bl)) (h : k (.bl (bs.any id)) m) : fAny [.ref q] m k := ⟨q, bs, rfl, h1, h⟩
end PV

/-! text[a : b + c].replace(sign, sign); f-strings. -/
namespace PV
open PySem L2 PyProof.Rows
section
variable {X : Cx} {o e a b : Expr} {te ta tb tl th to : TE} {y z : Str} {i j : Nat} {c0 c1 apos pos p p2 : Pos}
/-- behind it a token is out -/
def TkE (X : Cx) (e : Expr) (t : TE) : Prop := ∀ (pins : List (Addr × Obj)) (σ : L2.St) (H : Hp) (Q : VK) (s : Shared), L2.Inv X pins σ H s → t σ H Q →
  wpAny (model X.prog X.w) X.A (eval e X.env) (fun v s1 => 1 ≤ s1.toks ∧ EP X pins σ Q v s1) X.xe s
def rSumI : R2 := fun x y H Q => ∃ n k : Int, x = .int n ∧ y = .int k ∧ Q (.int (n + k)) H
theorem tk_sum (ha : PE X a ta) (hb : PE X b tb) : TkE X (.BinOp a .Add b pos) (tOp rSumI ta tb) := fun pins σ H Q s I q => by
  refine wpAny_BinOp (wpAny_mono (ha.run pins s σ H _ I q) (fun v s1 hv => ?_) fun _ _ w => w)
  obtain ⟨x, H1, I1, r1, q1⟩ := hv
  refine wpAny_mono (hb.run pins s1 σ H1 _ I1 q1) (fun u s2 hu => ?_) fun _ _ w => w
  obtain ⟨x2, H2, I2, r2, n, k, e1, e2, q2⟩ := hu
  subst e1 e2
  obtain ⟨t1, rfl⟩ := r1
  obtain ⟨t2, rfl⟩ := r2
  exact PySem.P.add_int ⟨Nat.succ_le_succ (Nat.zero_le _), .int (n + k), H2, I2.tok _, ⟨_, rfl⟩, q2⟩
theorem tk_cut {r : V → Option Int → Option Int → Hp → VK → Prop} (hr : SlR X r) (he : PE X e te) (hl : PE X a tl) (hu : TkE X b th) : TkE X (.Subscript e (.Slice (some a) (some b) none p2) pos) (L2.tSl r te (tPart tl) (tPart th)) := fun pins σ H Q s I q => by
  refine Subscript_ (wpAny_mono (he.run pins s σ H _ I q) (fun v s1 hv => ?_) fun _ _ w => w)
  obtain ⟨x, H1, I1, r1, q1⟩ := hv
  refine wpAny_Slice (wpAny_mono (hl.run pins s1 σ H1 _ I1 q1) (fun vl s2 hvl => ?_) fun _ _ w => w)
  obtain ⟨xl, H2, I2, rl, n, e2, q2⟩ := hvl
  refine wpAny_mono (hu pins σ H2 _ s2 I2 q2) (fun vu s3 hvu => ?_) fun _ _ w => w
  obtain ⟨hk, xu, H3, I3, ru, k, e3, q3⟩ := hvu
  subst e2 e3
  obtain ⟨tl, rfl⟩ := rl
  obtain ⟨tu, rfl⟩ := ru
  refine wpAny_pure ?_
  obtain ⟨T, id, hT, ht, hg⟩ := hr pins _ σ H3 x v _ _ _ _ _ Q (I3.kept (t' := s3.toks) fun _ _ w => Heap.get?_push_of_some _ w) r1 (Heap.IsSliceOf.new ..) (.int n tl) (.int k tu) q3
  refine tail_any (ops := [.ref s3.heap.objs.size, v]) ht hT ?_ (by with_unfolding_all rfl)
  exact wpAny_mono (wpAny_toks hg) (fun _ s5 w => ⟨Nat.le_trans hk w.1, w.2⟩) fun _ _ w => w.2
theorem pe_swap (ho : TkE X o to) (hyz : (y == z) = false)
    (hst : starEach [.Constant (.str y) i c0, .Constant (.str z) j c1] X.env = [(false, eval (.Constant (.str y) i c0) X.env), (false, eval (.Constant (.str z) j c1) X.env)])
    (hbase : attributeBase o "replace" X.env (eval o X.env) = eval o X.env) (hline : (apos.endLine == pos.line) = true) :
    PE X (.Call (.Attribute o "replace" apos) [.Constant (.str y) i c0, .Constant (.str z) j c1] [] pos) (CwR.tReplC to y z) := by
  refine ⟨fun pins s σ H Q I q => Call_method2 hbase hst hline (wpAny_mono (ho pins σ H _ s I q) (fun v s1 hv => ?_) fun _ _ w => w)⟩
  obtain ⟨hk, v1, H1, I1, r1, x, ev, hb, q⟩ := hv
  subst ev
  obtain ⟨tx, rfl⟩ := r1
  have n0 : s1.toks ≠ 0 := fun w => by rw [w] at hk; cases hk
  have go : ∀ t2 : Nat, t2 = s1.toks + 1 → wpAny (model X.prog X.w) X.A (call (.builtin "str.replace") [.str x tx, .str y s1.toks, .str z t2]) (EP X pins σ Q) X.xe { s1 with toks := s1.toks + 1 + 1 } := fun t2 e2 =>
    PySem.SC.replace n0 (by rw [e2]; exact Nat.succ_ne_zero _) (by rw [e2]; exact (Nat.succ_ne_self _).symm) hyz hb fun t' k => ⟨.str (Txt.replace x y z), H1, I1.tok k, ⟨t', rfl⟩, q⟩
  exact ⟨"str", _, PySem.F.plainAttrs_str, PySem.F.slot_str_replace, PySem.F.type_str_replace, typeIs_str .., (fun _ w => nomatch w),
    Calls.callWith_builtin rfl (Calls.evalArgs_plain (Calls.spliced_cons (Calls.Constant_str (Calls.spliced_cons (Calls.Constant_str (Calls.spliced_nil (go _ rfl)))))))⟩
end
/-! ### text[a : b + c].replace(sign, sign), as data -/
def fRepC (y z : Str) (d : D) (lo : Option Int) (c e : D) (m : Mp) (k : K3) : Prop := ∃ (t : Str) (p q : Int), d = .str t ∧ c = .int p ∧ e = .int q ∧ t.length ≤ 100000 ∧ k (.str (Txt.replace (cutS t lo (some (p + q))) y z)) m
def eRepC (y z : Str) (A : TE3) (B : TO3) (C E : TE3) : TE3 := fun s m k x => A s m (fun d m1 => B s m1 (fun lo m2 => C s m2 (fun c m3 => E s m3 (fun e m4 => fRepC y z d lo c e m4 k) x) x) x) x
section
variable {X : Cx} {cl : Cl} {W : WX} {o e a b c : Expr} {A B C E : TE3} {y z : Str} {i j : Nat} {c0 c1 apos pos p p2 p3 : Pos}
theorem mono_repC {B : TO3} (ha : MonoE A) (hb : MonoO B) (hc : MonoE C) (he : MonoE E) : MonoE (eRepC y z A B C E) := fun s m k k' x x' hk hx q =>
  ha _ _ _ _ _ _ (fun d m1 q => hb _ _ _ _ _ _ (fun b m2 q => hc _ _ _ _ _ _ (fun c m3 q => he _ _ _ _ _ _ (fun e m4 ⟨t, p, q, e1, e2, e3, h5, h6⟩ => ⟨t, p, q, e1, e2, e3, h5, hk _ _ h6⟩) hx q) hx q) hx q) hx q
theorem cutS_len (t : Str) (lo hi : Option Int) : (cutS t lo hi).length ≤ t.length := by
  rw [show t.length = t.cps.toList.length from str_len]
  unfold cutS
  show (List.toArray _).size ≤ _
  rw [List.size_toArray, List.length_take, List.length_drop]
  omega
theorem q_repC (ha : QE X cl W e A) (hb : QE X cl W a B) (hc : QE X cl W b C) (he : QE X cl W c E) (hz : z.length = 1) (hyz : (y == z) = false)
    (hst : starEach [.Constant (.str y) i c0, .Constant (.str z) j c1] X.env = [(false, eval (.Constant (.str y) i c0) X.env), (false, eval (.Constant (.str z) j c1) X.env)])
    (hbase : attributeBase (.Subscript e (.Slice (some a) (some (.BinOp b .Add c p3)) none p2) p) "replace" X.env (eval (.Subscript e (.Slice (some a) (some (.BinOp b .Add c p3)) none p2) p) X.env) = eval (.Subscript e (.Slice (some a) (some (.BinOp b .Add c p3)) none p2) p) X.env) (hline : (apos.endLine == pos.line) = true) :
    QE X cl W (.Call (.Attribute (.Subscript e (.Slice (some a) (some (.BinOp b .Add c p3)) none p2) p) "replace" apos) [.Constant (.str y) i c0, .Constant (.str z) j c1] [] pos) (eRepC y z A (oSome B) C E) := by
  refine ⟨mono_repC ha.mono (qo_some hb).mono hc.mono he.mono, PE.imp (pe_swap (tk_cut sl_str ha.run hb.run (tk_sum hc.run he.run)) hyz hst hbase hline) fun σ H Q ⟨s, m, hs, hm, q⟩ => ?_⟩
  refine ⟨s, m, hs, hm, ha.mono _ _ _ _ _ _ (fun d m1 q v H1 r1 hm1 e1 => ?_) (fun _ _ w => w) q⟩
  refine ⟨s, m1, hs.mono e1, hm1, hb.mono _ _ _ _ _ _ (fun b m2 ⟨n, en, q⟩ v2 H2 r2 hm2 e2 => ?_) (fun _ _ w => cX_ext e1 w) q⟩
  subst en
  have e12 := e1.trans e2
  refine ⟨n, r2, s, m2, hs.mono e12, hm2, hc.mono _ _ _ _ _ _ (fun c m3 q v3 H3 r3 hm3 e3 => ?_) (fun _ _ w => cX_ext e12 w) q⟩
  have e13 := e12.trans e3
  refine ⟨s, m3, hs.mono e13, hm3, he.mono _ _ _ _ _ _ (fun e m4 ⟨t, p, p5, d1, d2, d3, hl, fin⟩ v4 H4 r4 hm4 e4 => ?_) (fun _ _ w => cX_ext e13 w) q⟩
  subst d1 d2 d3
  have e14 := e13.trans e4
  refine ⟨p, p5, r3, r4, _, rfl, t, r1, Nat.le_trans hl (by decide), _, rfl, ?_, fin _ _ rfl hm4 e14⟩
  have := cutS_len t (some n) (some (p + p5))
  rw [hz]
  omega
end
theorem x_repC {y z : Str} {A : TE3} {B : TO3} {C E : TE3} {s : S3} {m : Mp} {k : K3} {x : X3} (h : A s m (fun d m1 => B s m1 (fun lo m2 => C s m2 (fun c m3 => E s m3 (fun e m4 => fRepC y z d lo c e m4 k) x) x) x) x) : eRepC y z A B C E s m k x := h
theorem xf_repC {y z t : Str} {lo : Option Int} {p q : Int} {m : Mp} {k : K3} (h0 : t.cps.toList.length ≤ 100000) (h : k (.str (Txt.replace (cutS t lo (some (p + q))) y z)) m) : fRepC y z (.str t) lo (.int p) (.int q) m k := ⟨t, p, q, rfl, rfl, rfl, by rw [str_len]; exact h0, h⟩
/-! ### f-strings -/
def fFm (d : D) (m : Mp) (k : K3) : Prop := (∃ y : Str, d = .str y ∧ y.length ≤ sizeLine ∧ k (.str y) m) ∨ ∃ i : Int, d = .int i ∧ i.natAbs.log2 < 1920 ∧ k (.str (toString i)) m
def eFm (A : TE3) : TE3 := fun s m k x => A s m (fun d m1 => fFm d m1 k) x
def fJ (d : D) (acc : Str) (r : Str → Prop) : Prop := ∃ y : Str, d = .str y ∧ (acc ++ y).length ≤ sizeLine ∧ r (acc ++ y)
def jRun : List TE3 → Str → S3 → Mp → K3 → X3 → Prop
  | [], acc, _, m, k, _ => k (.str acc) m
  | A :: As, acc, s, m, k, x => A s m (fun d m1 => fJ d acc fun a2 => jRun As a2 s m1 k x) x
def eJ (As : List TE3) : TE3 := fun s m k x => jRun As Str.empty s m k x
section
variable {X : Cx} {cl : Cl} {W : WX} {e v1 v2 : Expr} {rest : List Expr} {A : TE3} {As : List TE3} {pos : Pos}
theorem q_fm (h : QE X cl W e A) : QE X cl W (.FormattedValue e (-1) none pos) (eFm A) := by
  refine ⟨fun s m k k' x x' hk hx q => h.mono _ _ _ _ _ _ (fun d m1 q => ?_) hx q, PE.imp (pe_fmt h.run) fun σ H Q ⟨s, m, hs, hm, q⟩ => ⟨s, m, hs, hm, h.mono _ _ _ _ _ _ (fun d m1 q v H1 r1 hm1 e1 => ?_) (fun _ _ w => w) q⟩⟩
  · rcases q with ⟨y, e, h1, h2⟩ | ⟨i, e, h1, h2⟩
    · exact .inl ⟨y, e, h1, hk _ _ h2⟩
    · exact .inr ⟨i, e, h1, hk _ _ h2⟩
  · rcases q with ⟨y, e, h1, h2⟩ | ⟨i, e, h1, h2⟩ <;> subst e
    · exact .inl ⟨y, r1, h1, h2 _ _ rfl hm1 e1⟩
    · exact .inr ⟨i, r1, h1, h2 _ _ rfl hm1 e1⟩
inductive QJ (X : Cx) (cl : Cl) (W : WX) : List Expr → List TE3 → Prop where
  | nil : QJ X cl W [] []
  | cons {e : Expr} {A : TE3} {es : List Expr} {As : List TE3} (h : QE X cl W e A) (r : QJ X cl W es As) : QJ X cl W (e :: es) (A :: As)
theorem QJ.pj {es : List Expr} (h : QJ X cl W es As) : PJ X es (As.map (upE X.K cl W)) := by
  induction h with
  | nil => exact .nil
  | cons h _ ih => exact .cons h.run ih
theorem QJ.mono {es : List Expr} (h : QJ X cl W es As) {s : S3} {k k' : K3} {x x' : X3} (hk : ∀ d m, k d m → k' d m) (hx : ∀ e m, x e m → x' e m) : ∀ {acc : Str} {m : Mp}, jRun As acc s m k x → jRun As acc s m k' x' := by
  induction h with
  | nil => exact fun q => hk _ _ q
  | cons h _ ih => exact fun q => h.mono _ _ _ _ _ _ (fun d m1 ⟨y, e, h1, h2⟩ => ⟨y, e, h1, ih h2⟩) hx q
theorem QJ.up {es : List Expr} (h : QJ X cl W es As) {s : S3} {σ : L2.St} {H0 : Hp} {Q : VK} : ∀ {acc : Str} {m : Mp} {H : Hp}, Ext H0 H → RepS X.K H s σ → Ab X.K cl H m → jRun As acc s m (cE X.K cl H0 Q) (cX X.K cl W H0 σ) → tJs (As.map (upE X.K cl W)) acc σ H fun out H1 => Q (.str out) H1 := by
  induction h with
  | nil => exact fun e hs hm q => q _ _ rfl hm e
  | cons h _ ih =>
    intro acc m H e hs hm q
    refine ⟨s, m, hs, hm, h.mono _ _ _ _ _ _ (fun d m1 ⟨y, ey, h1, h2⟩ v H1 r1 hm1 e1 => ?_) (fun _ _ w => cX_ext e w) q⟩
    subst ey
    exact ⟨y, r1, h1, ih (e.trans e1) (hs.mono e1) hm1 h2⟩
theorem q_js (h : QJ X cl W (v1 :: v2 :: rest) As) : QE X cl W (.JoinedStr (v1 :: v2 :: rest) pos) (eJ As) :=
  ⟨fun s m k k' x x' hk hx q => h.mono hk hx q, PE.imp (pe_joined h.pj) fun σ H Q ⟨s, m, hs, hm, q⟩ => h.up (Ext.refl H) hs hm q⟩
end
theorem x_fm {A : TE3} {s : S3} {m : Mp} {k : K3} {x : X3} (h : A s m (fun d m1 => fFm d m1 k) x) : eFm A s m k x := h
theorem x_js {As : List TE3} {s : S3} {m : Mp} {k : K3} {x : X3} (h : jRun As Str.empty s m k x) : eJ As s m k x := h
theorem x_jc {A : TE3} {As : List TE3} {acc : Str} {s : S3} {m : Mp} {k : K3} {x : X3} (h : A s m (fun d m1 => fJ d acc fun a2 => jRun As a2 s m1 k x) x) : jRun (A :: As) acc s m k x := h
theorem x_jn {acc : Str} {s : S3} {m : Mp} {k : K3} {x : X3} (h : k (.str acc) m) : jRun [] acc s m k x := h
theorem xf_fmS {y : Str} {m : Mp} {k : K3} (h0 : y.cps.toList.length ≤ 100000) (h : k (.str y) m) : fFm (.str y) m k := .inl ⟨y, rfl, by rw [str_len]; exact Nat.le_trans h0 (by decide), h⟩
theorem xf_fmI {n : Int} {m : Mp} {k : K3} (h0 : n.natAbs.log2 < 1920) (h : k (.str (toString n)) m) : fFm (.int n) m k := .inr ⟨n, rfl, h0, h⟩
theorem xf_j {y acc : Str} {r : Str → Prop} (h0 : acc.cps.toList.length + y.cps.toList.length ≤ 100000) (h : r (acc ++ y)) : fJ (.str y) acc r := ⟨y, rfl, by rw [str_len, show (acc ++ y).cps.toList = acc.cps.toList ++ y.cps.toList from Array.toList_append .., List.length_append]; exact Nat.le_trans h0 (by decide), h⟩
end PV

namespace PV
open PySem L2 PyProof.Rows
abbrev i_text_codes : Nat := 14
def N_text_codes : List Str := [(Str.ofString "text"), (Str.ofString "found"), (Str.ofString "at"), (Str.ofString "code"), (Str.ofString "sign")]
def t_text_codes (T : Tb) (L : Nat) : TS3 :=
  sSeq (sAsg (eLst (aNil)) (gNm 1))
    (sSeq (sFor (iR3 (aCons (eLit (.int 0)) (aCons (eCB fLen (aCons (eVar 0) (aNil))) (aCons (eLit (.int 7)) (aNil))))) (gNm 2) (sSeq (sAsg (eLit (.int 0)) (gNm 3))
    (sSeq (sFor (iSq (eSl (eVar 0) (oSome (eVar 2)) (oSome (eBin fAdd (eVar 2) (eLit (.int 7)))))) (gNm 4) (sAsg (eBin fAdd (eBin fMul (eLit (.int 128)) (eVar 3)) (eCB fOrd (aCons (eVar 4) (aNil)))) (gNm 3)))
    (sExp (eMt "list" fAppend (eVar 1) (aCons (eVar 3) (aNil)))))))
    (sRet (eVar 1)))
abbrev i_codes_of : Nat := 15
def N_codes_of : List Str := [(Str.ofString "thing"), (Str.ofString "found"), (Str.ofString "part")]
def t_codes_of (T : Tb) (L : Nat) : TS3 :=
  sSeq (sIf (tBv (eBin (fIs false) (eVar 0) (eLit .non))) (sRet (eLst (aCons (eLit (.int 1)) (aNil)))) (sNil))
    (sSeq (sIf (tTru (eCB fIsi (aCons (eVar 0) (aCons (eLit (.ty "int")) (aNil))))) (sRet (eLst (aCons (eLit (.int 2)) (aCons (eBin fDiv (eBin fAdd (eVar 0) (eLit (.int 1000000000000000000000000000000))) (eLit (.int 1000000000000000))) (aCons (eBin fMod (eBin fAdd (eVar 0) (eLit (.int 1000000000000000000000000000000))) (eLit (.int 1000000000000000))) (aNil)))))) (sNil))
    (sSeq (sIf (tTru (eCB fIsi (aCons (eVar 0) (aCons (eLit (.ty "str")) (aNil))))) (sRet (eBin fAdd (eLst (aCons (eLit (.int 3)) (aCons (eCB fLen (aCons (eVar 0) (aNil))) (aNil)))) (eCall T L 14 (aCons (eVar 0) (aNil))))) (sNil))
    (sSeq (sAsg (eLst (aCons (eLit (.int 4)) (aCons (eCB fLen (aCons (eVar 0) (aNil))) (aNil)))) (gNm 1))
    (sSeq (sFor (iSq (eVar 0)) (gNm 2) (sExp (eMt "list" fExtend (eVar 1) (aCons (eCall T L 15 (aCons (eVar 2) (aNil))) (aNil)))))
    (sRet (eVar 1))))))
abbrev i_seal : Nat := 17
def N_seal : List Str := [(Str.ofString "thing"), (Str.ofString "last"), (Str.ofString "code")]
def t_seal (T : Tb) (L : Nat) : TS3 :=
  sSeq (sAsg (eLit (.int 7)) (gNm 1))
    (sSeq (sFor (iSq (eCall T L 15 (aCons (eVar 0) (aNil)))) (gNm 2) (sAsg (eBin fMod (eBin fAdd (eBin fMul (eVar 1) (eLit (.int 1234567890123456789))) (eVar 2)) (eLit (.int 2305843009213693951))) (gNm 1)))
    (sRet (eBin fAdd (eVar 1) (eLit (.int 1)))))
abbrev i_check_of : Nat := 146
def N_check_of : List Str := [(Str.ofString "text"), (Str.ofString "found"), (Str.ofString "start")]
def t_check_of (T : Tb) (L : Nat) : TS3 :=
  sSeq (sAsg (eLit (.int 0)) (gNm 1))
    (sSeq (sFor (iR3 (aCons (eLit (.int 0)) (aCons (eCB fLen (aCons (eVar 0) (aNil))) (aCons (eLit (.int 50)) (aNil))))) (gNm 2) (sAsg (eCall T L 17 (aCons (eTup (aCons (eVar 1) (aCons (eRepC (Str.ofString "\n") (Str.ofString ";") (eVar 0) (oSome (eVar 2)) (eVar 2) (eLit (.int 50))) (aNil)))) (aNil))) (gNm 1)))
    (sRet (eVar 1)))
abbrev i_record : Nat := 155
def N_record : List Str := [(Str.ofString "texts"), (Str.ofString "payload"), (Str.ofString "size"), (Str.ofString "check"), (Str.ofString "text")]
def t_record (T : Tb) (L : Nat) : TS3 :=
  sSeq (sAsg (eMt "str" fJoin (eLit (.str (Str.ofString ""))) (aCons (eLc (iSq (eVar 0)) 4 (tYes3) (eBin fAdd (eVar 4) (eLit (.str (Str.ofString "\n"))))) (aNil))) (gNm 1))
    (sSeq (sAsg (eCB fLen (aCons (eVar 1) (aNil))) (gNm 2))
    (sSeq (sAsg (eCall T L 146 (aCons (eVar 1) (aNil))) (gNm 3))
    (sRet (eJ [eFm (eVar 2), eLit (.str (Str.ofString ":")), eFm (eVar 1), eFm (eVar 3), eLit (.str (Str.ofString "\n"))]))))
abbrev i_number_at : Nat := 147
def N_number_at : List Str := [(Str.ofString "text"), (Str.ofString "at"), (Str.ofString "mark"), (Str.ofString "behind"), (Str.ofString "figures")]
def t_number_at (T : Tb) (L : Nat) : TS3 :=
  sSeq (sAsg (eVar 1) (gNm 3))
    (sSeq (sWhl (tAnd3 (tBv (eBin fLt (eVar 3) (eCB fLen (aCons (eVar 0) (aNil))))) (tAnd3 (tBv (eBin (fIn false) (eBin fIx (eVar 0) (eVar 3)) (eLit (.str (Str.ofString "0123456789"))))) (tBv (eBin fLe (eBin fSub (eVar 3) (eVar 1)) (eLit (.int 20)))))) (sAug 3 (eLit (.int 1)) (fI CT fun i j => .int (i + j))))
    (sSeq (sAsg (eSl (eVar 0) (oSome (eVar 1)) (oSome (eVar 3))) (gNm 4))
    (sSeq (sIf (tOr3 (tBv (eBin fEq (eVar 4) (eLit (.str (Str.ofString ""))))) (tOr3 (tBv (eBin fGt (eCB fLen (aCons (eVar 4) (aNil))) (eLit (.int 20)))) (tAnd3 (tBv (eBin fEq (eBin fIx (eVar 4) (eLit (.int 0))) (eLit (.str (Str.ofString "0"))))) (tBv (eBin fNe (eVar 4) (eLit (.str (Str.ofString "0")))))))) (sRet (eLit .non)) (sNil))
    (sSeq (sIf (tBv (eBin fNe (eSl (eVar 0) (oSome (eVar 3)) (oSome (eBin fAdd (eVar 3) (eLit (.int 1))))) (eVar 2))) (sRet (eLit .non)) (sNil))
    (sRet (eTup (aCons (eCB fInt (aCons (eVar 4) (aNil))) (aCons (eBin fAdd (eVar 3) (eLit (.int 1))) (aNil)))))))))
abbrev i_is_payload : Nat := 148
def N_is_payload : List Str := [(Str.ofString "text"), (Str.ofString "sign")]
def t_is_payload (T : Tb) (L : Nat) : TS3 :=
  sSeq (sIf (tBv (eBin fNe (eSl (eVar 0) (oSome (eNeg (eLit (.int 1)))) (oNone)) (eLit (.str (Str.ofString "\n"))))) (sRet (eLit (.bl false))) (sNil))
    (sSeq (sFor (iSq (eVar 0)) (gNm 1) (sIf (tAnd3 (tBv (eBin fNe (eVar 1) (eLit (.str (Str.ofString "\n"))))) (tOr3 (tBv (eBin fLt (eCB fOrd (aCons (eVar 1) (aNil))) (eLit (.int 32)))) (tOr3 (tBv (eBin fGt (eCB fOrd (aCons (eVar 1) (aNil))) (eLit (.int 126)))) (tBv (eBin fEq (eCB fOrd (aCons (eVar 1) (aNil))) (eLit (.int 37))))))) (sRet (eLit (.bl false))) (sNil)))
    (sRet (eLit (.bl true))))
abbrev i_record_at : Nat := 149
def N_record_at : List Str := [(Str.ofString "text"), (Str.ofString "at"), (Str.ofString "head"), (Str.ofString "size"), (Str.ofString "first"), (Str.ofString "payload"), (Str.ofString "tail")]
def t_record_at (T : Tb) (L : Nat) : TS3 :=
  sSeq (sAsg (eCall T L 147 (aCons (eVar 0) (aCons (eVar 1) (aCons (eLit (.str (Str.ofString ":"))) (aNil))))) (gNm 2))
    (sSeq (sIf (tBv (eBin (fIs false) (eVar 2) (eLit .non))) (sRet (eLit .non)) (sNil))
    (sSeq (sAsg (eVar 2) (gTp 2 (gs1 (gNm 3) (gs1 (gNm 4) (gs0)))))
    (sSeq (sAsg (eSl (eVar 0) (oSome (eVar 4)) (oSome (eBin fAdd (eVar 4) (eVar 3)))) (gNm 5))
    (sSeq (sIf (tOr3 (tBv (eBin fLt (eCB fLen (aCons (eVar 5) (aNil))) (eVar 3))) (tNot3 (tTru (eCall T L 148 (aCons (eVar 5) (aNil)))))) (sRet (eLit .non)) (sNil))
    (sSeq (sAsg (eCall T L 147 (aCons (eVar 0) (aCons (eBin fAdd (eVar 4) (eVar 3)) (aCons (eLit (.str (Str.ofString "\n"))) (aNil))))) (gNm 6))
    (sSeq (sIf (tOr3 (tBv (eBin (fIs false) (eVar 6) (eLit .non))) (tBv (eBin fNe (eBin fIx (eVar 6) (eLit (.int 0))) (eCall T L 146 (aCons (eVar 5) (aNil)))))) (sRet (eLit .non)) (sNil))
    (sRet (eTup (aCons (eMt "str" fSplit (eSl (eVar 5) (oNone) (oSome (eNeg (eLit (.int 1))))) (aCons (eLit (.str (Str.ofString "\n"))) (aNil))) (aCons (eBin fIx (eVar 6) (eLit (.int 1))) (aNil)))))))))))
abbrev i_records : Nat := 159
def N_records : List Str := [(Str.ofString "text"), (Str.ofString "lists"), (Str.ofString "ends"), (Str.ofString "at"), (Str.ofString "found"), (Str.ofString "texts")]
def t_records (T : Tb) (L : Nat) : TS3 :=
  sSeq (sAsg (eLst (aNil)) (gNm 1))
    (sSeq (sAsg (eLst (aNil)) (gNm 2))
    (sSeq (sAsg (eLit (.int 0)) (gNm 3))
    (sWhl (tTru (eLit (.bl true))) (sSeq (sAsg (eCall T L 149 (aCons (eVar 0) (aCons (eVar 3) (aNil)))) (gNm 4))
    (sSeq (sIf (tBv (eBin (fIs false) (eVar 4) (eLit .non))) (sRet (eTup (aCons (eVar 1) (aCons (eVar 2) (aNil))))) (sNil))
    (sSeq (sAsg (eVar 4) (gTp 2 (gs1 (gNm 5) (gs1 (gNm 3) (gs0)))))
    (sSeq (sExp (eMt "list" fAppend (eVar 1) (aCons (eVar 5) (aNil))))
    (sExp (eMt "list" fAppend (eVar 2) (aCons (eVar 3) (aNil)))))))))))
abbrev i_law_cell_at : Nat := 9
def N_law_cell_at : List Str := [(Str.ofString "script"), (Str.ofString "k")]
def t_law_cell_at (T : Tb) (L : Nat) : TS3 :=
  sSeq (sIf (tBv (eBin fLt (eVar 1) (eCB fLen (aCons (eVar 0) (aNil))))) (sRet (eBin fIx (eVar 0) (eVar 1))) (sNil))
    (sRet (eLit (.int 0)))
abbrev i_law_mixed : Nat := 150
def N_law_mixed : List Str := [(Str.ofString "cell"), (Str.ofString "k"), (Str.ofString "number")]
def t_law_mixed (T : Tb) (L : Nat) : TS3 :=
  sSeq (sAsg (eBin fMod (eBin fAdd (eBin fAdd (eBin fMul (eBin fMod (eVar 0) (eLit (.int 2147483629))) (eBin fAdd (eBin fMul (eLit (.int 2)) (eVar 1)) (eLit (.int 60607)))) (eBin fMul (eLit (.int 29)) (eVar 1))) (eLit (.int 7))) (eLit (.int 2147483587))) (gNm 2))
    (sRet (eBin fDiv (eBin fMod (eBin fMul (eVar 2) (eVar 2)) (eLit (.int 2147483563))) (eLit (.int 3))))
abbrev i_law_sign : Nat := 151
def N_law_sign : List Str := [(Str.ofString "number"), (Str.ofString "some")]
def t_law_sign (T : Tb) (L : Nat) : TS3 :=
  sSeq (sAsg (eLit (.str (Str.ofString " !\"#$&'()*+,-./0123456789:;<=>?@ABCDEFGHIJKLMNOPQRSTUVWXYZ[\\]^_`"))) (gNm 1))
    (sSeq (sAsg (eBin fAdd (eVar 1) (eLit (.str (Str.ofString "abcdefghijklmnopqrstuvwxyz{|}~")))) (gNm 1))
    (sRet (eBin fIx (eVar 1) (eBin fMod (eVar 0) (eLit (.int 94))))))
abbrev i_law_lists : Nat := 154
def N_law_lists : List Str := [(Str.ofString "cells"), (Str.ofString "lists"), (Str.ofString "cell"), (Str.ofString "text"), (Str.ofString "k")]
def t_law_lists (T : Tb) (L : Nat) : TS3 :=
  sSeq (sAsg (eLst (aNil)) (gNm 1))
    (sSeq (sFor (iSq (eVar 0)) (gNm 2) (sSeq (sAsg (eMt "str" fJoin (eLit (.str (Str.ofString ""))) (aCons (eLc (iR1 (aCons (eBin fMod (eCall T L 150 (aCons (eVar 2) (aCons (eLit (.int 1)) (aNil)))) (eBin fIx (eLst (aCons (eLit (.int 6)) (aCons (eLit (.int 71)) (aNil)))) (eBin fMod (eVar 2) (eLit (.int 2))))) (aNil))) 4 (tYes3) (eCall T L 151 (aCons (eCall T L 150 (aCons (eVar 2) (aCons (eBin fAdd (eLit (.int 5)) (eVar 4)) (aNil)))) (aNil)))) (aNil))) (gNm 3))
    (sSeqJ (sIf (tOr3 (tBv (eBin fEq (eVar 1) (eLst (aNil)))) (tOr3 (tBv (eBin fEq (eBin fMod (eCall T L 150 (aCons (eVar 2) (aCons (eLit (.int 2)) (aNil)))) (eBin fIx (eLst (aCons (eLit (.int 2)) (aCons (eLit (.int 12)) (aNil)))) (eBin fMod (eBin fIx (eVar 0) (eLit (.int 0))) (eLit (.int 2))))) (eLit (.int 0)))) (tBv (eBin fGt (eCB fLen (aCons (eBin fIx (eVar 1) (eNeg (eLit (.int 1)))) (aNil))) (eBin fIx (eLst (aCons (eLit (.int 3)) (aCons (eLit (.int 19)) (aNil)))) (eBin fMod (eBin fIx (eVar 0) (eLit (.int 0))) (eLit (.int 2)))))))) (sExp (eMt "list" fAppend (eVar 1) (aCons (eLst (aNil)) (aNil)))) (sNil))
    (sSub (eVar 1) (eNeg (eLit (.int 1))) (eBin fAdd (eBin fIx (eVar 1) (eNeg (eLit (.int 1)))) (eLst (aCons (eVar 3) (aNil))))))))
    (sRet (eVar 1)))
abbrev i_law_sealed : Nat := 161
def N_law_sealed : List Str := [(Str.ofString "number"), (Str.ofString "piece"), (Str.ofString "codes"), (Str.ofString "start"), (Str.ofString "group"), (Str.ofString "sign"), (Str.ofString "got"), (Str.ofString "code")]
def t_law_sealed (T : Tb) (L : Nat) : TS3 :=
  sSeq (sAsg (eLst (aCons (eLit (.int 4)) (aCons (eLit (.int 2)) (aCons (eLit (.int 2)) (aCons (eBin fDiv (eBin fAdd (eVar 0) (eBin fPow (eLit (.int 10)) (eLit (.int 30)))) (eBin fPow (eLit (.int 10)) (eLit (.int 15)))) (aCons (eBin fMod (eBin fAdd (eVar 0) (eBin fPow (eLit (.int 10)) (eLit (.int 30)))) (eBin fPow (eLit (.int 10)) (eLit (.int 15)))) (aCons (eLit (.int 3)) (aCons (eCB fLen (aCons (eVar 1) (aNil))) (aNil))))))))) (gNm 2))
    (sSeq (sFor (iR3 (aCons (eLit (.int 0)) (aCons (eCB fLen (aCons (eVar 1) (aNil))) (aCons (eLit (.int 7)) (aNil))))) (gNm 3) (sSeq (sAsg (eLit (.int 0)) (gNm 4))
    (sSeq (sFor (iSq (eSl (eVar 1) (oSome (eVar 3)) (oSome (eBin fAdd (eVar 3) (eLit (.int 7)))))) (gNm 5) (sAsg (eBin fAdd (eBin fMul (eVar 4) (eLit (.int 128))) (eCB fOrd (aCons (eVar 5) (aNil)))) (gNm 4)))
    (sExp (eMt "list" fAppend (eVar 2) (aCons (eVar 4) (aNil)))))))
    (sSeq (sAsg (eLit (.int 7)) (gNm 6))
    (sSeq (sFor (iSq (eVar 2)) (gNm 7) (sAsg (eBin fMod (eBin fAdd (eBin fMul (eVar 6) (eLit (.int 1234567890123456789))) (eVar 7)) (eBin fSub (eBin fPow (eLit (.int 2)) (eLit (.int 61))) (eLit (.int 1)))) (gNm 6)))
    (sRet (eBin fAdd (eVar 6) (eLit (.int 1)))))))
abbrev i_law_check : Nat := 152
def N_law_check : List Str := [(Str.ofString "payload"), (Str.ofString "got"), (Str.ofString "start")]
def t_law_check (T : Tb) (L : Nat) : TS3 :=
  sSeq (sAsg (eLit (.int 0)) (gNm 1))
    (sSeq (sFor (iR3 (aCons (eLit (.int 0)) (aCons (eCB fLen (aCons (eVar 0) (aNil))) (aCons (eLit (.int 50)) (aNil))))) (gNm 2) (sAsg (eCall T L 161 (aCons (eVar 1) (aCons (eRepC (Str.ofString "\n") (Str.ofString ";") (eVar 0) (oSome (eVar 2)) (eVar 2) (eLit (.int 50))) (aNil)))) (gNm 1)))
    (sRet (eVar 1)))
abbrev i_law_record : Nat := 156
def N_law_record : List Str := [(Str.ofString "texts"), (Str.ofString "payload"), (Str.ofString "text")]
def t_law_record (T : Tb) (L : Nat) : TS3 :=
  sSeq (sAsg (eMt "str" fJoin (eLit (.str (Str.ofString ""))) (aCons (eLc (iSq (eVar 0)) 2 (tYes3) (eBin fAdd (eVar 2) (eLit (.str (Str.ofString "\n"))))) (aNil))) (gNm 1))
    (sRet (eBin fAdd (eBin fAdd (eBin fAdd (eBin fAdd (eCB fStr (aCons (eCB fLen (aCons (eVar 1) (aNil))) (aNil))) (eLit (.str (Str.ofString ":")))) (eVar 1)) (eCB fStr (aCons (eCall T L 152 (aCons (eVar 1) (aNil))) (aNil)))) (eLit (.str (Str.ofString "\n")))))
abbrev i_law_number : Nat := 645
def N_law_number : List Str := [(Str.ofString "text"), (Str.ofString "figure")]
def t_law_number (T : Tb) (L : Nat) : TS3 :=
  sSeq (sIf (tOr3 (tBv (eBin fEq (eVar 0) (eLit (.str (Str.ofString ""))))) (tOr3 (tBv (eBin fGt (eCB fLen (aCons (eVar 0) (aNil))) (eLit (.int 20)))) (tAnd3 (tBv (eBin fEq (eBin fIx (eVar 0) (eLit (.int 0))) (eLit (.str (Str.ofString "0"))))) (tBv (eBin fGt (eCB fLen (aCons (eVar 0) (aNil))) (eLit (.int 1))))))) (sRet (eNeg (eLit (.int 1)))) (sNil))
    (sSeq (sIf (tNot3 (tTru (eCB fAll (aCons (eLc (iSq (eVar 0)) 1 (tYes3) (eBin (fIn false) (eVar 1) (eLit (.str (Str.ofString "0123456789"))))) (aNil))))) (sRet (eNeg (eLit (.int 1)))) (sNil))
    (sRet (eCB fInt (aCons (eVar 0) (aNil)))))
abbrev i_law_good : Nat := 646
def N_law_good : List Str := [(Str.ofString "payload"), (Str.ofString "sign")]
def t_law_good (T : Tb) (L : Nat) : TS3 :=
  sSeq (sIf (tBv (eBin fNe (eSl (eVar 0) (oSome (eNeg (eLit (.int 1)))) (oNone)) (eLit (.str (Str.ofString "\n"))))) (sRet (eLit (.bl false))) (sNil))
    (sRet (eCB fAll (aCons (eLc (iSq (eVar 0)) 1 (tYes3) (eOr (eBin fEq (eVar 1) (eLit (.str (Str.ofString "\n")))) (eBin fEq (eCall T L 151 (aCons (eBin fSub (eBin fSub (eCB fOrd (aCons (eVar 1) (aNil))) (eLit (.int 32))) (eCB fInt (aCons (eBin fGt (eCB fOrd (aCons (eVar 1) (aNil))) (eLit (.int 37))) (aNil)))) (aNil))) (eVar 1)))) (aNil))))
abbrev i_law_read : Nat := 160
def N_law_read : List Str := [(Str.ofString "text"), (Str.ofString "lists"), (Str.ofString "ends"), (Str.ofString "at"), (Str.ofString "head"), (Str.ofString "much"), (Str.ofString "first"), (Str.ofString "payload"), (Str.ofString "tail")]
def t_law_read (T : Tb) (L : Nat) : TS3 :=
  sSeq (sAsg (eLst (aNil)) (gNm 1))
    (sSeq (sAsg (eLst (aNil)) (gNm 2))
    (sSeq (sAsg (eLit (.int 0)) (gNm 3))
    (sWhl (tTru (eLit (.bl true))) (sSeq (sAsg (eBin fIx (eMt "str" fSplit (eSl (eVar 0) (oSome (eVar 3)) (oNone)) (aCons (eLit (.str (Str.ofString ":"))) (aNil))) (eLit (.int 0))) (gNm 4))
    (sSeq (sAsg (eCall T L 645 (aCons (eVar 4) (aNil))) (gNm 5))
    (sSeq (sAsg (eBin fAdd (eBin fAdd (eVar 3) (eCB fLen (aCons (eVar 4) (aNil)))) (eLit (.int 1))) (gNm 6))
    (sSeq (sAsg (eSl (eVar 0) (oSome (eVar 6)) (oSome (eBin fAdd (eVar 6) (eCB fMax2 (aCons (eLit (.int 0)) (aCons (eVar 5) (aNil))))))) (gNm 7))
    (sSeq (sAsg (eMt "str" fSplit (eSl (eVar 0) (oSome (eBin fAdd (eVar 6) (eCB fMax2 (aCons (eLit (.int 0)) (aCons (eVar 5) (aNil)))))) (oNone)) (aCons (eLit (.str (Str.ofString "\n"))) (aNil))) (gNm 8))
    (sSeq (sIf (tOr3 (tBv (eBin fLt (eVar 5) (eLit (.int 0)))) (tOr3 (tBv (eBin fLt (eCB fLen (aCons (eVar 7) (aNil))) (eVar 5))) (tOr3 (tNot3 (tTru (eCall T L 646 (aCons (eVar 7) (aNil))))) (tBv (eBin fLt (eCB fLen (aCons (eVar 8) (aNil))) (eLit (.int 2))))))) (sRet (eTup (aCons (eVar 1) (aCons (eVar 2) (aNil))))) (sNil))
    (sSeq (sIf (tBv (eBin fNe (eCall T L 645 (aCons (eBin fIx (eVar 8) (eLit (.int 0))) (aNil))) (eCall T L 152 (aCons (eVar 7) (aNil))))) (sRet (eTup (aCons (eVar 1) (aCons (eVar 2) (aNil))))) (sNil))
    (sSeq (sExp (eMt "list" fAppend (eVar 1) (aCons (eMt "str" fSplit (eSl (eVar 7) (oNone) (oSome (eNeg (eLit (.int 1))))) (aCons (eLit (.str (Str.ofString "\n"))) (aNil))) (aNil))))
    (sSeq (sAsg (eBin fAdd (eBin fAdd (eBin fAdd (eVar 6) (eVar 5)) (eCB fLen (aCons (eBin fIx (eVar 8) (eLit (.int 0))) (aNil)))) (eLit (.int 1))) (gNm 3))
    (sExp (eMt "list" fAppend (eVar 2) (aCons (eVar 3) (aNil))))))))))))))))
abbrev i_law_spoilt : Nat := 157
def N_law_spoilt : List Str := [(Str.ofString "text"), (Str.ofString "cell"), (Str.ofString "more"), (Str.ofString "at"), (Str.ofString "sign")]
def t_law_spoilt (T : Tb) (L : Nat) : TS3 :=
  sSeq (sAsg (eBin fMod (eBin fDiv (eVar 1) (eLit (.int 4))) (eBin fAdd (eCB fLen (aCons (eVar 0) (aNil))) (eLit (.int 1)))) (gNm 3))
    (sSeq (sAsg (eBin fIx (eLit (.str (Str.ofString "0123456789:\n"))) (eBin fMod (eCall T L 150 (aCons (eVar 2) (aCons (eLit (.int 3)) (aNil)))) (eLit (.int 12)))) (gNm 4))
    (sSeqJ (sIf (tBv (eBin fEq (eBin fMod (eCall T L 150 (aCons (eVar 2) (aCons (eLit (.int 4)) (aNil)))) (eLit (.int 3))) (eLit (.int 0)))) (sAsg (eCall T L 151 (aCons (eCall T L 150 (aCons (eVar 2) (aCons (eLit (.int 6)) (aNil)))) (aNil))) (gNm 4)) (sNil))
    (sSeq (sIf (tBv (eBin fEq (eBin fMod (eVar 1) (eLit (.int 4))) (eLit (.int 0)))) (sRet (eSl (eVar 0) (oNone) (oSome (eVar 3)))) (sNil))
    (sSeq (sIf (tBv (eBin fEq (eBin fMod (eVar 1) (eLit (.int 4))) (eLit (.int 1)))) (sRet (eBin fAdd (eBin fAdd (eSl (eVar 0) (oNone) (oSome (eVar 3))) (eVar 4)) (eSl (eVar 0) (oSome (eVar 3)) (oNone)))) (sNil))
    (sSeq (sIf (tBv (eBin fEq (eBin fMod (eVar 1) (eLit (.int 4))) (eLit (.int 2)))) (sRet (eBin fAdd (eBin fAdd (eSl (eVar 0) (oNone) (oSome (eVar 3))) (eVar 4)) (eSl (eVar 0) (oSome (eBin fAdd (eVar 3) (eLit (.int 1)))) (oNone)))) (sNil))
    (sRet (eBin fAdd (eSl (eVar 0) (oNone) (oSome (eVar 3))) (eSl (eVar 0) (oSome (eBin fAdd (eVar 3) (eLit (.int 1)))) (oNone)))))))))
abbrev i_law_of : Nat := 153
def N_law_of : List Str := [(Str.ofString "payload")]
def t_law_of (T : Tb) (L : Nat) : TS3 :=
  sRet (eBin fAdd (eBin fAdd (eBin fAdd (eBin fAdd (eCB fStr (aCons (eCB fLen (aCons (eVar 0) (aNil))) (aNil))) (eLit (.str (Str.ofString ":")))) (eVar 0)) (eCB fStr (aCons (eCall T L 152 (aCons (eVar 0) (aNil))) (aNil)))) (eLit (.str (Str.ofString "\n"))))
abbrev i_law_odd : Nat := 158
def N_law_odd : List Str := [(Str.ofString "text"), (Str.ofString "cell"), (Str.ofString "some")]
def t_law_odd (T : Tb) (L : Nat) : TS3 :=
  sSeq (sAsg (eLst (aCons (eLit (.str (Str.ofString "0:0\n"))) (aCons (eCall T L 153 (aCons (eLit (.str (Str.ofString "ab"))) (aNil))) (aCons (eCall T L 153 (aCons (eLit (.str (Str.ofString "a\tb\n"))) (aNil))) (aCons (eCall T L 153 (aCons (eLit (.str (Str.ofString "\n"))) (aNil))) (aCons (eBin fAdd (eCall T L 153 (aCons (eLit (.str (Str.ofString "a\n"))) (aNil))) (eCall T L 153 (aCons (eLit (.str (Str.ofString "\n\n"))) (aNil)))) (aNil))))))) (gNm 2))
    (sRet (eLst (aCons (eBin fAdd (eBin fAdd (eVar 0) (eBin fIx (eVar 2) (eBin fMod (eVar 1) (eLit (.int 5))))) (eCall T L 153 (aCons (eLit (.str (Str.ofString "z\n"))) (aNil)))) (aCons (eBin fAdd (eBin fIx (eVar 2) (eBin fMod (eBin fDiv (eVar 1) (eLit (.int 5))) (eLit (.int 5)))) (eVar 0)) (aNil)))))
abbrev i_law : Nat := 162
def N_law : List Str := [(Str.ofString "script"), (Str.ofString "lists"), (Str.ofString "text"), (Str.ofString "texts"), (Str.ofString "handed"), (Str.ofString "made"), (Str.ofString "payload"), (Str.ofString "spoilt"), (Str.ofString "odd"), (Str.ofString "told"), (Str.ofString "got"), (Str.ofString "one"), (Str.ofString "other")]
def t_law (T : Tb) (L : Nat) : TS3 :=
  sSeq (sAsg (eCall T L 154 (aCons (eSl (eVar 0) (oSome (eLit (.int 2))) (oSome (eLit (.int 62)))) (aNil))) (gNm 1))
    (sSeq (sAsg (eLit (.str (Str.ofString ""))) (gNm 2))
    (sSeq (sFor (iSq (eVar 1)) (gNm 3) (sSeq (sAsg (eCB fList (aCons (eVar 3) (aNil))) (gNm 4))
    (sSeq (sAsg (eCall T L 155 (aCons (eVar 4) (aNil))) (gNm 5))
    (sSeq (sAsg (eMt "str" fJoin (eLit (.str (Str.ofString ""))) (aCons (eLc (iSq (eVar 3)) 11 (tYes3) (eBin fAdd (eVar 11) (eLit (.str (Str.ofString "\n"))))) (aNil))) (gNm 6))
    (sSeq (sIf (tOr3 (tBv (eBin fNe (eVar 5) (eCall T L 156 (aCons (eVar 3) (aNil))))) (tOr3 (tBv (eBin fNe (eVar 4) (eVar 3))) (tBv (eBin fNe (eCall T L 146 (aCons (eVar 6) (aNil))) (eCall T L 152 (aCons (eVar 6) (aNil))))))) (sRet (eLit (.bl false))) (sNil))
    (sAsg (eBin fAdd (eVar 2) (eVar 5)) (gNm 2)))))))
    (sSeq (sAsg (eCall T L 157 (aCons (eVar 2) (aCons (eCall T L 9 (aCons (eVar 0) (aCons (eLit (.int 0)) (aNil)))) (aCons (eCall T L 9 (aCons (eVar 0) (aCons (eLit (.int 1)) (aNil)))) (aNil))))) (gNm 7))
    (sSeq (sAsg (eCall T L 158 (aCons (eVar 2) (aCons (eCall T L 9 (aCons (eVar 0) (aCons (eLit (.int 1)) (aNil)))) (aNil)))) (gNm 8))
    (sSeq (sFor (iSq (eBin fAdd (eLst (aCons (eVar 2) (aCons (eVar 7) (aCons (eLit (.str (Str.ofString ""))) (aCons (eBin fAdd (eVar 2) (eLit (.str (Str.ofString "7")))) (aCons (eBin fAdd (eVar 7) (eSl (eVar 7) (oNone) (oSome (eLit (.int 20))))) (aNil))))))) (eVar 8))) (gNm 9) (sSeq (sAsg (eCall T L 159 (aCons (eVar 9) (aNil))) (gNm 10))
    (sSeq (sIf (tOr3 (tNot3 (tTru (eCB fIsi (aCons (eVar 10) (aCons (eLit (.ty "tuple")) (aNil)))))) (tBv (eBin fNe (eVar 10) (eCall T L 160 (aCons (eVar 9) (aNil)))))) (sRet (eLit (.bl false))) (sNil))
    (sSeq (sIf (tAnd3 (tBv (eBin (fIn true) (eLit (.str (Str.ofString "\t"))) (eVar 9))) (tBv (eBin fNe (eCall T L 146 (aCons (eVar 9) (aNil))) (eCall T L 152 (aCons (eVar 9) (aNil)))))) (sRet (eLit (.bl false))) (sNil))
    (sFor (iSq (eBin fIx (eVar 10) (eLit (.int 0)))) (gNm 3) (sSeq (sExp (eMt "list" fAppend (eVar 3) (aCons (eLit (.int 7)) (aNil))))
    (sSeq (sIf (tBv (eBin fNe (eCB fLen (aCons (eLc (iSq (eBin fIx (eVar 10) (eLit (.int 0)))) 12 (tBv (eBin fEq (eSl (eVar 12) (oSome (eNeg (eLit (.int 1)))) (oNone)) (eLst (aCons (eLit (.int 7)) (aNil))))) (eVar 12)) (aNil))) (eLit (.int 1)))) (sRet (eLit (.bl false))) (sNil))
    (sExp (eMt0 "list" fPop (eVar 3))))))))))
    (sRet (eAnd (eBin fEq (eBin fIx (eCall T L 159 (aCons (eVar 2) (aNil))) (eLit (.int 0))) (eVar 1)) (eBin fEq (eCall T L 146 (aCons (eLit (.str (Str.ofString ""))) (aNil))) (eLit (.int 0))))))))))
/-! the steps as tactics -/
local macro_rules | `(tactic| walk_at "ne") => `(tactic| first | assumption | exact Ne.symm (by assumption) | (refine ne_none' (o := ?o1) (by assumption) ?h1; case h1 => walk_at "hp") | (refine Ne.symm (ne_none' (o := ?o1) (by assumption) ?h1); case h1 => walk_at "hp"))
local macro_rules | `(tactic| walk_at "hp") => `(tactic| first | assumption | exact mset_same | (refine (mset_ne (by walk_at "ne")).trans ?_; walk_at "hp") | (refine Fr.at (by assumption) (by walk_at "ni") ?_; walk_at "hp"))
local macro_rules | `(tactic| walk_at "ni") => `(tactic| first | exact ni_nil | (refine ni_cons ?_ ?_; (walk_at "ne"); (walk_at "ni")) | assumption)
local macro_rules | `(tactic| walk_at "mm") => `(tactic| first | exact in_h | (refine in_t ?_; walk_at "mm") | assumption)
local macro_rules | `(tactic| walk_at "in") => `(tactic| first | (refine Or.inl ?_; walk_at "mm") | assumption | (refine Fr.gone ?g (by assumption); case g => walk_at "fr") | exact Or.inr (by assumption))
local macro_rules | `(tactic| walk_at "is") => `(tactic| first | exact Ins.nil | (refine Ins.cons ?_ ?_; (walk_at "in"); (walk_at "is")))
local macro_rules | `(tactic| walk_at "fr") => `(tactic| first | assumption | exact Fr.refl _ _ | (refine Fr.new ?_ (by assumption); walk_at "fr") | (refine Fr.set ?_ (by walk_at "in"); walk_at "fr") | (refine Fr.sub (by assumption) (by walk_at "is") ?_; walk_at "fr"))
local macro_rules | `(tactic| walk_at "rl") => `(tactic| first | assumption | (refine RL.new ?_ (by assumption); walk_at "rl") | (refine RL.of ?_; walk_at "hp") | (refine Or.inr (Or.inl ?_); walk_at "hp"))
local macro_rules | `(tactic| walk_at "sd") => `(tactic| first | exact True.intro | assumption | omega | (show (0:Int) < _; omega) | exact ⟨by omega, by omega⟩ | exact cdivw (by omega) (by omega) | exact cmulw ⟨by omega, by omega⟩ ⟨by omega, by omega⟩ | decide | (dsimp only [List.length_cons, List.length_nil]; omega) | (simp only [List.length_cons, List.length_nil, List.length_append, List.length_map]; omega))
local macro_rules | `(tactic| walk_at "ki") => `(tactic| first | exact kit_t (by decide) | exact kit_f (by decide))
local macro_rules | `(tactic| walk_at "ty") => `(tactic| first | exact TyD.non | exact TyD.bl _ | exact TyD.int _ | exact TyD.str _ | exact TyD.tup _ | exact TyD.lst (by walk_at "rl") | exact TyD.dK (by walk_at "hp") | exact TyD.dT (by walk_at "hp"))
local macro_rules | `(tactic| walk_at "x1") => `(tactic| with_reducible first
  | refine x_seq ?_ | refine x_asg ?_ | refine x_par ?_ | refine x_par2 ?_ | refine x_gnm ?_ | refine x_if ?_ | refine x_ret ?_ | refine x_exp ?_ | refine x_nil ?_ | refine x_retN ?_ | refine x_sub ?_ | refine x_brk ?_ | refine x_cnt ?_
  | refine x_lit ?_ | refine x_bin ?_ | refine x_neg ?_ | refine x_negI ?_ | refine x_anil ?_ | refine x_acons ?_ | refine x_tup ?_ | refine x_lst ?_ | refine x_cb ?_ | refine x_ecall ?_ | refine x_mt ?_ | refine x_mt0 ?_
  | refine x_and ?_ | refine x_or ?_ | refine x_not ?_ | refine x_ife ?_ | refine x_exb ?_ | refine x_chain ?_ | refine x_ch1 ?_ | refine x_ch2 ?_ | refine x_tbv ?_ | refine x_ttru ?_ | refine x_trB ?_ | refine x_trI ?_ | refine x_trT ?_
  | refine x_go ?_ | refine x_gr ?_ | refine x_ist ?_ | refine x_irv ?_ | refine x_ien ?_ | refine x_rev ?_
  | refine x_lc ?_ | refine x_gs1 ?_ | refine x_gs0 ?_ | refine x_dic ?_ | refine x_fld ?_ | refine x_fldS ?_ | refine x_meth ?_ | refine x_make ?_ | refine x_try ?_ | refine x_ise ?_
  | refine x_tand ?_ | refine x_tor ?_ | refine x_tnot ?_ | refine x_yes ?_ | refine x_sl ?_ | refine x_on ?_ | refine x_os ?_ | refine x_for ?_ | refine x_isq ?_ | refine x_itT ?_ | refine x_itS ?_ | refine x_ir1 ?_ | refine x_ir3 ?_ | refine x_izp ?_
  | refine xf_addI ?_ | refine xf_ltI ?_ | refine xf_ltS ?_ | refine xf_eqI ?_ | refine xf_neI ?_ | refine xf_eqS ?_ | refine xf_neS ?_ | refine xf_eqB ?_ | refine xf_slT ?_ | refine xf_lenT ?_ | refine xf_ord ?_ | refine xf_abs ?_ | refine xf_max2 ?_ | refine xf_min2 ?_
  | refine xf_pow6 ?_ | refine xf_pow15 ?_ | refine xf_pow30 ?_ | refine xf_intI ?_ | refine xf_intB ?_ | refine xf_tupT ?_ | refine xf_lstT ?_ | refine x_tyS ?_)
local macro_rules | `(tactic| walk_at "x2") => `(tactic| first
  | ((with_reducible refine x_var (d := ?_) ?h0 ?_); case h0 => rfl)
  | ((with_reducible refine x_ir1' ?h0 ?_); case h0 => walk_at "sd")
  | ((with_reducible refine x_aug (u := ?_) ?h0 ?_); case h0 => rfl)
  | ((with_reducible refine x_sz ?h0 ?_); case h0 => walk_at "sd")
  | ((with_reducible refine xf_I ?h0 ?_); case h0 => walk_at "sd")
  | ((with_reducible refine xf_mulI ?h0 ?_); case h0 => walk_at "sd")
  | ((with_reducible refine xf_is0 (b := ?_) ?h0 ?_); case h0 => rfl)
  | ((with_reducible refine xf_is1 (b := ?_) ?h0 ?_); case h0 => rfl)
  | ((with_reducible refine xf_isiT (n := ?_) ?h0 ?h1 ?_); (case h0 => walk_at "ty"); (case h1 => decide))
  | ((with_reducible refine xf_isiF (n := ?_) ?h0 ?h1 ?_); (case h0 => walk_at "ty"); (case h1 => decide))
  | ((with_reducible refine xf_ixL (l := ?_) (d := ?_) ?h0 ?h1 ?_); (case h0 => walk_at "rl"); (case h1 => rfl))
  | ((with_reducible refine xf_ixT (d := ?_) ?h0 ?_); (case h0 => rfl))
  | ((with_reducible refine xf_set (l := ?_) (j := ?_) ?h0 ?h1 ?_); (case h0 => walk_at "hp"); (case h1 => rfl))
  | ((with_reducible refine xf_app (l := ?_) ?h0 ?h1 ?_); (case h0 => walk_at "hp"); (case h1 => walk_at "sd"))
  | ((with_reducible refine x_tyL (l := ?_) ?h0 ?_); (case h0 => walk_at "rl"))
  | ((with_reducible refine x_tyK (kvs := ?_) ?h0 ?_); (case h0 => walk_at "hp"))
  | ((with_reducible refine xf_fld (C := ?_) (fs := ?_) (v := ?_) ?h0 ?h1 ?_); (case h0 => walk_at "hp"); (case h1 => first | assumption | rfl))
  | ((with_reducible refine xf_fldS (C := ?_) (fs := ?_) ?h0 ?h1 ?_); (case h0 => walk_at "hp"); (case h1 => first | decide | (simp only [List.length_cons, List.length_nil]; omega) | exact Nat.lt_of_lt_of_le (show _ < 10 from by simp) (by decide)))
  | ((with_reducible refine xf_meth (C := ?_) (fs := ?_) (i := ?_) ?h0 ?h1 ?h2 ?_); (case h0 => walk_at "hp"); (case h1 => first | assumption | rfl); (case h2 => first | assumption | rfl))
  | ((with_reducible refine xf_clear (l := ?_) ?h0 ?_); (case h0 => walk_at "hp"))
  | ((with_reducible refine xf_lenL (l := ?_) ?h0 ?_); (case h0 => walk_at "rl"))
  | ((with_reducible refine xf_tupL (l := ?_) ?h0 ?_); (case h0 => walk_at "rl"))
  | ((with_reducible refine x_gtp ?h0 ?_); case h0 => rfl)
  | ((with_reducible refine x_gls (l := ?_) ?h0 ?h1 ?_); (case h0 => walk_at "rl"); (case h1 => rfl))
  | ((with_reducible refine x_trL (l := ?_) ?h0 ?_); (case h0 => walk_at "rl"))
  | ((with_reducible refine x_itL (l := ?_) ?h0 ?_); (case h0 => walk_at "rl"))
  | ((with_reducible refine x_irL (l := ?_) ?h0 ?_); (case h0 => walk_at "rl"))
  | ((with_reducible refine x_ieL (l := ?_) ?h0 ?_); (case h0 => walk_at "rl"))
  | ((with_reducible refine xf_istT (t := ?_) ?h0 ?h1 ?_); (case h0 => walk_at "ty"); (case h1 => decide +kernel))
  | ((with_reducible refine xf_istF (t := ?_) ?h0 ?h1 ?_); (case h0 => walk_at "ty"); (case h1 => decide +kernel))
  | ((with_reducible refine xf_slL (l := ?_) ?h0 ?_); (case h0 => walk_at "rl"))
  | ((with_reducible refine x_itg ?_); first | refine x_iT ?_ | refine x_iF ?_)
  | (with_reducible intro _ _))
local macro_rules | `(tactic| walk_at "x") => `(tactic| repeat (first | walk_at "x1" | walk_at "x2"))
local macro_rules | `(tactic| walk_at "ix") => `(tactic| (refine fx_M (l := ?_) ?h1 ?h2 ?h3 ?h4; (case h1 => walk_at "rl"); (case h2 => assumption); (case h3 => first | assumption | walk_at "sd")))
local macro_rules | `(tactic| walk_at "nm") => `(tactic| first | assumption | decide | omega)
local macro_rules | `(tactic| walk_at "gn") => `(tactic| (refine (Fr.gone ?_ (by assumption)).resolve_left ni_nil; walk_at "fr"))

/-! k91: texts by their signs -/
-- uses PvLm
-- uses PvLn
-- uses PvLo
-- uses PvLz
abbrev Sg := List Nat
abbrev dS (w : Sg) : D := .str (SX.S w)
theorem tl_S {w : Sg} : (SX.S w).cps.toList = w := rfl
theorem S_of {z : Str} : SX.S z.cps.toList = z := SX.S_tl z
theorem S_eq {a b : Sg} : SX.S a = SX.S b ↔ a = b := ⟨SX.S_inj, fun h => by rw [h]⟩
theorem sg1 {c : Nat} : (⟨#[c]⟩ : Str) = SX.S [c] := rfl
theorem fx_eqW {a b : Sg} {m : Mp} {k : K3} (h : k (.bl (decide (a = b))) m) : fEq (dS a) (dS b) m k := xf_eqS (by
  rw [show decide (SX.S a = SX.S b) = decide (a = b) from decide_eq_decide.mpr S_eq]; exact h)
theorem fx_neW {a b : Sg} {m : Mp} {k : K3} (h : k (.bl (!decide (a = b))) m) : fNe (dS a) (dS b) m k := xf_neS (by
  rw [show decide (SX.S a = SX.S b) = decide (a = b) from decide_eq_decide.mpr S_eq]; exact h)
theorem fx_addW {a b : Sg} {m : Mp} {k : K3} (h0 : a.length + b.length ≤ 100000) (h : k (dS (a ++ b)) m) : fAdd (dS a) (dS b) m k := xf_addS' h0 (by rw [SX.S_cat]; exact h)
theorem fx_lenW {a : Sg} {m : Mp} {k : K3} (h0 : a.length ≤ 100000) (h : k (.int a.length) m) : fLen [dS a] m k := xf_lenS' h0 h
theorem atI_last {α : Type} {l : List α} {a : α} : atI (l ++ [a]) (-1) = some a := by
  have hn : ixN (l ++ [a]).length (-1) = some l.length := by
    unfold ixN
    rw [List.length_append, List.length_singleton, if_neg (by omega), if_pos (by omega)]
    congr 1
    omega
  unfold atI
  rw [hn]
  show (l ++ [a])[l.length]? = some a
  simp
theorem ixN_last {α : Type} {l : List α} {a : α} : ixN (l ++ [a]).length (-1) = some l.length := by
  unfold ixN
  rw [List.length_append, List.length_singleton, if_neg (by omega), if_pos (by omega)]
  congr 1
  omega
theorem set_last {α : Type} {l : List α} {a b : α} : (l ++ [a]).set l.length b = l ++ [b] := by
  rw [List.set_append]
  simp
theorem atI_lastG {w : Sg} {c : Nat} (h : w.getLast? = some c) : atI w (-1) = some c := by
  obtain ⟨l, rfl⟩ := List.getLast?_eq_some_iff.mp h
  exact atI_last
theorem atI_hd {w : Sg} {c : Nat} (h : w.head? = some c) : atI w 0 = some c := by
  cases w with
  | nil => cases h
  | cons a l =>
    cases h
    show atI (c :: l) ((0 : Nat) : Int) = _
    rw [atI_of_nat (by simp)]; rfl
theorem cut_first {w : Sg} : cutS (SX.S w) none (some 1) = SX.S (w.take 1) := by
  rw [← S_of (z := cutS _ _ _), cutS_list, HT.sIx_none, show (1 : Int) = ((1 : Nat) : Int) from rfl, HT.sIx_nat, str_len, tl_S, List.drop_zero, Nat.sub_zero]
  congr 1
  cases w <;> simp
theorem cut_rest {w : Sg} : cutS (SX.S w) (some 1) none = SX.S (w.drop 1) := by
  rw [← S_of (z := cutS _ _ _), cutS_list, HT.sIx_none, show (1 : Int) = ((1 : Nat) : Int) from rfl, HT.sIx_nat, str_len, tl_S]
  congr 1
  cases w with
  | nil => rfl
  | cons a l => simp
theorem cut_all {w : Sg} : cutS (SX.S w) (some 0) none = SX.S w := by
  rw [← S_of (z := cutS _ _ _), cutS_list, HT.sIx_none, show (0 : Int) = ((0 : Nat) : Int) from rfl, HT.sIx_nat, str_len, tl_S]
  congr 1
  simp
theorem cut_mid {w : Sg} (h : 1 < w.length) : cutS (SX.S w) (some 1) (some (-1)) = SX.S ((w.drop 1).take (w.length - 2)) := by
  rw [← S_of (z := cutS _ _ _), cutS_list, str_len, tl_S]
  have e1 : HT.sIx w.length 0 (some 1) = 1 := by
    show (if (1 : Int) < 0 then ((1 : Int) + (w.length : Int)).toNat else min (1 : Int).toNat w.length) = 1
    rw [if_neg (by decide)]
    show min 1 w.length = 1
    omega
  have e2 : HT.sIx w.length w.length (some (-1)) = w.length - 1 := by
    show (if (-1 : Int) < 0 then ((-1 : Int) + (w.length : Int)).toNat else min (-1 : Int).toNat w.length) = _
    rw [if_pos (by decide)]
    omega
  rw [e1, e2, show w.length - 1 - 1 = w.length - 2 by omega]
theorem signsW {w : Sg} {i : Nat} {d : D} (h : (signs (SX.S w))[i]? = some d) : ∃ c, w[i]? = some c ∧ d = dS [c] := by
  unfold signs at h
  rw [List.getElem?_map, tl_S] at h
  cases e : w[i]? with
  | none => rw [e] at h; cases h
  | some c => rw [e] at h; cases h; exact ⟨c, rfl, rfl⟩
theorem signs_len {w : Sg} : (signs (SX.S w)).length = w.length := by unfold signs; rw [List.length_map, tl_S]
theorem take_snoc {α : Type} {l : List α} {i : Nat} {d : α} (h : l[i]? = some d) : l.take (i + 1) = l.take i ++ [d] := by rw [List.take_add_one, h]; rfl
abbrev wD (ws : List Sg) : List D := ws.map dS
theorem wD_app {a b : List Sg} : wD (a ++ b) = wD a ++ wD b := List.map_append
theorem dsg {c k : Nat} {z : Str} (h : z = SX.S [k]) : decide (SX.S [c] = z) = decide (c = k) := by
  subst h
  refine decide_eq_decide.mpr (S_eq.trans ?_)
  simp
theorem decT {p : Prop} [Decidable p] (h : p) : decide p = true := decide_eq_true h
theorem fx_ixW {w : Sg} {n : Int} {c : Nat} {m : Mp} {k : K3} (h0 : w.length ≤ 100000) (h2 : atI w n = some c) (h : k (dS [c]) m) : fIx (dS w) (.int n) m k := xf_ixS (by rw [str_len]; exact Nat.le_trans h0 (by decide)) h2 h
theorem decF {p : Prop} [Decidable p] (h : ¬ p) : decide p = false := decide_eq_false h
abbrev sgF : Sg := (Str.ofString "0123456789").cps.toList
theorem mem_F {c : Nat} : c ∈ sgF ↔ 48 ≤ c ∧ c ≤ 57 := by
  have e : sgF = [48, 49, 50, 51, 52, 53, 54, 55, 56, 57] := by decide +kernel
  rw [e]
  simp only [List.mem_cons, List.not_mem_nil, or_false]
  omega

/-! checks, in plain lists of signs -/
def sw (c : Nat) : Nat := if c = 10 then 59 else c
def pcAt (w : Sg) (i : Nat) : Sg := ((w.drop (50 * i)).take 50).map sw
def chkS (a : Int) (w : Sg) (i : Nat) : Int := sealD (.tup [.int a, dS (pcAt w i)])
def chkTo (w : Sg) (n : Nat) : Int := (List.range n).foldl (fun a i => chkS a w i) 0
def chk (w : Sg) : Int := chkTo w ((w.length + 49) / 50)
theorem chkTo_next {w : Sg} {n : Nat} : chkTo w (n + 1) = chkS (chkTo w n) w n := by unfold chkTo; rw [List.range_succ, List.foldl_append]; rfl
theorem chkTo_ok {w : Sg} : ∀ {n : Nat}, 0 ≤ chkTo w n ∧ chkTo w n ≤ 2305843009213693951
  | 0 => ⟨Int.le_refl _, by show (0 : Int) ≤ _; decide⟩
  | n + 1 => by rw [chkTo_next]; have := sealD_pos (.tup [.int (chkTo w n), dS (pcAt w n)]); unfold chkS; omega
theorem chk_ok {w : Sg} : 0 ≤ chk w ∧ chk w ≤ 2305843009213693951 := chkTo_ok
/-- a sign of a payload -/
def paySg (c : Nat) : Prop := c = 10 ∨ (32 ≤ c ∧ c ≤ 126 ∧ c ≠ 37)
instance {c : Nat} : Decidable (paySg c) := by unfold paySg; exact inferInstance
theorem pc_len {w : Sg} {i : Nat} : (pcAt w i).length ≤ 50 := by unfold pcAt; rw [List.length_map, List.length_take]; omega
theorem pc_mem {w : Sg} {i c : Nat} (h : c ∈ pcAt w i) : ∃ e ∈ w, c = sw e := by
  unfold pcAt at h
  obtain ⟨e, he, rfl⟩ := List.mem_map.mp h
  exact ⟨e, List.mem_of_mem_drop (List.mem_of_mem_take he), rfl⟩
theorem rgc50 {n : Nat} (h : n ≤ 100000) : RgC 0 n 50 ((n + 49) / 50) := by
  have e : Builtin.Range.rangeSize 0 n 50 = ((n + 49) / 50 : Nat) := by
    rw [rangeSize_pos (by decide) (by omega)]
    omega
  refine ⟨by decide, by decide, ?_, e⟩
  unfold Builtin.Range.small
  rw [e, fits_of (i := 0) (by decide) (by decide), fits_of (i := (n : Int)) (by omega) (by omega), fits_of (i := 50) (by decide) (by decide), fits_of (i := (((n + 49) / 50 : Nat) : Int)) (by omega) (by omega), if_pos (by decide), fits_of (by omega) (by omega)]
  simp
theorem cutW {w : Sg} {i j : Nat} : cutS (SX.S w) (some (i : Int)) (some (j : Int)) = SX.S ((w.drop i).take (j - i)) := by
  rw [← S_of (z := cutS _ _ _), cutS_list, HT.sIx_nat, HT.sIx_nat, str_len, tl_S]
  congr 1
  by_cases h : i ≤ w.length
  · rw [Nat.min_eq_left h]
    by_cases h2 : j ≤ w.length
    · rw [Nat.min_eq_left h2]
    · rw [Nat.min_eq_right (a := j) (by omega), List.take_of_length_le (by rw [List.length_drop]; omega), List.take_of_length_le (by rw [List.length_drop]; omega)]
  · rw [Nat.min_eq_right (a := i) (by omega), List.drop_of_length_le (l := w) (i := w.length) (Nat.le_refl _), List.drop_of_length_le (l := w) (i := i) (by omega)]
    simp
theorem cutW0 {w : Sg} {i : Nat} : cutS (SX.S w) (some (i : Int)) none = SX.S (w.drop i) := by
  rw [← S_of (z := cutS _ _ _), cutS_list, HT.sIx_nat, HT.sIx_none, str_len, tl_S]
  congr 1
  by_cases h : i ≤ w.length
  · rw [Nat.min_eq_left h, List.take_of_length_le (by rw [List.length_drop]; omega)]
  · rw [Nat.min_eq_right (a := i) (by omega), List.drop_of_length_le (l := w) (i := w.length) (Nat.le_refl _), List.drop_of_length_le (l := w) (i := i) (by omega)]
    simp
theorem cutWn {w : Sg} {j : Nat} : cutS (SX.S w) none (some (j : Int)) = SX.S (w.take j) := by
  rw [← S_of (z := cutS _ _ _), cutS_list, HT.sIx_none, HT.sIx_nat, str_len, tl_S, List.drop_zero, Nat.sub_zero]
  congr 1
  by_cases h2 : j ≤ w.length
  · rw [Nat.min_eq_left h2]
  · rw [Nat.min_eq_right (by omega), List.take_of_length_le (by omega), List.take_of_length_le (by omega)]
open PySem.StrLaws in
theorem replL_one {c d : Nat} : ∀ {w : Sg}, replL [c] [d] w = w.map fun e => if e = c then d else e
  | [] => replL_nil
  | e :: w => by
    have h0 : (e :: w).take [c].length = [e] := rfl
    by_cases h : e = c
    · subst h
      rw [replL_hit (List.cons_ne_nil _ _) h0, List.map_cons, if_pos rfl, ← replL_one]
      rfl
    · rw [replL_miss (fun z => h (by rw [h0] at z; cases z; rfl)), List.map_cons, if_neg h, replL_one]
open PySem.StrLaws in
theorem repW {w : Sg} : Txt.replace (SX.S w) (Str.ofString "\n") (Str.ofString ";") = SX.S (w.map sw) := by
  rw [← S_of (z := Txt.replace _ _ _), replace_list (by decide), show (Str.ofString "\n").cps.toList = [10] from rfl, show (Str.ofString ";").cps.toList = [59] from rfl, tl_S, replL_one]
  rfl
theorem x_whlJ {t : TT3} {u : TS3} {nx bk ct : S3 → Mp → Prop} {rt : K3} {ex : S3 → X3} {s : S3} {m : Mp} (J : S3 → Mp → Prop) (P : Nat → S3 → Mp → Prop) (n : Nat) (h0 : P n s m) (h2 : ∀ s m, J s m → nx s m)
    (h : ∀ nn : S3 → Mp → Prop, (∀ s m, J s m → nn s m) → ∀ n s m, P n s m → t s m (fun b m1 => if b = true then u ⟨fun s' m' => ∃ n', n' < n ∧ P n' s' m', rt, nn, fun s' m' => ∃ n', n' < n ∧ P n' s' m', ex⟩ s m1 else nn s m1) (ex s)) : sWhl t u ⟨nx, rt, bk, ct, ex⟩ s m := x_whl P n h0 (h nx h2)

/-! the program: codes and seals -/
def sp_tcodes : FSpec where
  al := Str
  lev := fun _ => 0
  pre := fun a ds m => ds = [.str a] ∧ TxtOk a
  post := fun a m d m' => ∃ p, d = .ref p ∧ m' p = some (.lst ((tcodes a.cps.toList).map D.int)) ∧ m p = none ∧ Fr [] m m'
  exc := fun _ _ _ _ => False
theorem b_tcodes (T : Tb) : BodyOk (t_text_codes T) N_text_codes sp_tcodes 1 := by
  intro L a ds m k x hl hk hx hp hq he
  dsimp only [sp_tcodes] at hl hp hq he
  obtain ⟨z, hza⟩ : ∃ z : Str, z = a := ⟨a, rfl⟩
  subst hza
  obtain ⟨rfl, hz⟩ := hp
  have hz1 := hz.1
  unfold t_text_codes
  walk_at "x"
  rename_i p hp
  refine xf_lenS' (by omega) ?_
  walk_at "x"
  refine x_ir3' (rgc7 (by omega)) ?_
  refine for3 (fun i s m5 => ∃ c2 c3 c4, s = [some (.str z), some (.ref p), c2, c3, c4] ∧ m5 p = some (.lst (((List.range i).map (chunkAt z.cps.toList)).map D.int)) ∧ Fr [] m m5) ⟨_, _, _, rfl, mset_same, by walk_at "fr"⟩ (fun _ _ _ _ _ => True.intro) ?_ ?_
  · rintro i d s m5 hd ⟨c2, c3, c4, rfl, t1, t2⟩
    obtain ⟨h8, h9⟩ := rngD_get hd
    obtain rfl : d = .int ((7 * i : Nat) : Int) := by rw [h9]; congr 1; omega
    walk_at "x"
    refine xf_slS' (by omega) ?_
    rw [show ((7 * i : Nat) : Int) + 7 = ((7 * i + 7 : Nat) : Int) by omega]
    walk_at "x"
    have hcut := cut_chunk (z := z) (i := i) (by omega)
    generalize cutS z (some ((7 * i : Nat) : Int)) (some ((7 * i + 7 : Nat) : Int)) = y at hcut ⊢
    have hy : ∀ c ∈ y.cps.toList, c < 128 := fun c hc => sg_lt hz (List.mem_of_mem_drop (List.mem_of_mem_take (hcut ▸ hc)))
    have hyl : y.cps.toList.length ≤ 7 := by rw [hcut, List.length_take]; omega
    refine for3 (fun j s m6 => m6 = m5 ∧ ∃ c4, s = [some (.str z), some (.ref p), some (.int ((7 * i : Nat) : Int)), some (.int (chunkD (y.cps.toList.take j))), c4]) ⟨rfl, _, rfl⟩ (fun _ _ _ _ _ => True.intro) ?_ ?_
    · rintro j d s m6 hd ⟨rfl, c4, rfl⟩
      obtain ⟨c, hc, rfl⟩ := signs_get hd
      have hb := chunk_small (l := y.cps.toList.take j) (fun e he => hy e (List.mem_of_mem_take he)) (by rw [List.length_take]; omega)
      walk_at "x"
      exact ⟨rfl, _, by rw [chunk_take_next hc]; rfl⟩
    · rintro s m6 ⟨rfl, c4, rfl⟩
      rw [signs_length, List.take_length, hcut]
      walk_at "x"
      refine xf_app t1 (by simp; omega) ?_
      refine ⟨_, _, _, rfl, ?_, by walk_at "fr"⟩
      rw [tcodes_next, List.map_append]; exact mset_same
  · rintro s m5 ⟨c2, c3, c4, rfl, t1, t2⟩
    rw [rngD_length] at t1
    walk_at "x"
    exact hq _ _ ⟨p, rfl, t1, hp, t2⟩
theorem c_tcodes {T : Tb} {L : Nat} {m : Mp} {k : K3} {x : X3} {z : Str} (hT : T i_text_codes sp_tcodes) (hL : 0 < L) (h : TxtOk z)
    (hk : ∀ p m', m' p = some (.lst ((tcodes z.cps.toList).map D.int)) → m p = none → Fr [] m m' → k (.ref p) m') : callS T L i_text_codes [.str z] m k x := by
  refine x_call hT z hL ⟨rfl, h⟩ ?_ (fun _ _ h => h.elim)
  rintro d m' ⟨p, rfl, a1, a2, a3⟩
  exact hk p m' a1 a2 a3
def sp_codes : FSpec where
  al := Nat × D
  lev := fun a => a.1 + 1
  pre := fun a ds m => ds = [a.2] ∧ Fine a.1 a.2 ∧ a.2.sz ≤ 3000
  post := fun a m d m' => ∃ p, d = .ref p ∧ m' p = some (.lst ((codeD a.2).map D.int)) ∧ m p = none ∧ Fr [] m m'
  exc := fun _ _ _ _ => False
theorem c_codes {T : Tb} {L n : Nat} {m : Mp} {k : K3} {x : X3} {a : D} (hT : T i_codes_of sp_codes) (hL : n + 1 < L) (h : Fine n a) (hs : a.sz ≤ 3000)
    (hk : ∀ p m', m' p = some (.lst ((codeD a).map D.int)) → m p = none → Fr [] m m' → k (.ref p) m') : callS T L i_codes_of [a] m k x := by
  refine x_call hT ⟨n, a⟩ hL ⟨rfl, h, hs⟩ ?_ (fun _ _ h => h.elim)
  rintro d m' ⟨p, rfl, a1, a2, a3⟩
  exact hk p m' a1 a2 a3
theorem b_codes (T : Tb) (hC : T i_text_codes sp_tcodes) (hS : T i_codes_of sp_codes) : BodyOk (t_codes_of T) N_codes_of sp_codes 1 := by
  intro L a ds m k x hl hk hx hp hq he
  dsimp only [sp_codes] at hl hp hq he
  obtain ⟨n, a⟩ := a
  obtain ⟨rfl, h3, h4⟩ := hp
  dsimp only at *
  unfold t_codes_of
  rcases h3.cases with rfl | ⟨i, rfl, hi⟩ | ⟨z, rfl, hz⟩ | ⟨l, n1, rfl, rfl, g1, g2⟩
  · walk_at "x"
    rename_i p hp
    exact hq _ _ ⟨p, rfl, mset_same, hp, by walk_at "fr"⟩
  · walk_at "x"
    rename_i p hp
    exact hq _ _ ⟨p, rfl, mset_same, hp, by walk_at "fr"⟩
  · have hz1 := hz.1
    walk_at "x"
    refine xf_lenS' (by omega) ?_
    walk_at "x"
    rename_i p hp
    refine c_tcodes hC (by omega) hz (fun q m2 u1 u2 u3 => ?_)
    have hl2 := tcodes_len (l := z.cps.toList)
    unfold chunkN at hl2
    refine xf_addL (u3.at (by walk_at "ni") mset_same) u1 (by rw [List.length_map]; show 2 + _ ≤ _; omega) (fun p4 hp4 => ?_)
    refine hq _ _ ⟨p4, rfl, mset_same, ?_, by walk_at "fr"⟩
    walk_at "gn"
  · walk_at "x"
    rename_i w hw
    have hsz : D.szs l ≤ 3000 := by simp only [D.sz] at h4; omega
    have hlen : ∀ i, (codesD (l.take i)).length ≤ 12 * 3000 := fun i =>
      Nat.le_trans (codes_len (n := n1) (fun d hd => hd.code_len) (fun e he => g2 e (List.mem_of_mem_take he))) (Nat.mul_le_mul_left _ (Nat.le_trans szs_take hsz))
    refine for3 (fun i s m5 => ∃ c2, s = [some (.tup l), some (.ref w), c2] ∧ m5 w = some (.lst ((4 :: (l.length : Int) :: codesD (l.take i)).map D.int)) ∧ Fr [] m m5) ⟨_, rfl, mset_same, by walk_at "fr"⟩ (fun _ _ _ _ _ => True.intro) ?_ ?_
    · rintro i d s m5 hd ⟨c2, rfl, t1, t3⟩
      have fd := g2 d (List.mem_of_getElem? hd)
      have := szs_mem (List.mem_of_getElem? hd)
      walk_at "x"
      refine c_codes hS (by omega) fd (by omega) (fun p2 m6 v1 v2 v3 => ?_)
      have t4 : m6 w = some (.lst ((4 :: (l.length : Int) :: codesD (l.take i)).map D.int)) := v3.at (by walk_at "ni") t1
      have h8 := hlen i
      have h9 := fd.code_len
      walk_at "x"
      refine xf_ext t4 v1 (by simp; omega) ?_
      refine ⟨_, rfl, ?_, by walk_at "fr"⟩
      rw [List.take_add_one, hd, codesD_app, ← List.map_append]
      simp only [Option.toList, codesD, List.append_nil, List.cons_append]
      exact mset_same
    · rintro s m5 ⟨c2, rfl, t1, t3⟩
      rw [List.take_length] at t1
      walk_at "x"
      exact hq _ _ ⟨w, rfl, t1, hw, t3⟩
/-- seal -/
def sp_seal : FSpec where
  al := Nat × D
  lev := fun a => a.1 + 2
  pre := fun a ds m => ds = [a.2] ∧ Fine a.1 a.2 ∧ a.2.sz ≤ 3000
  post := fun a m d m' => d = .int (sealD a.2) ∧ Fr [] m m'
  exc := fun _ _ _ _ => False
theorem c_seal {T : Tb} {L n : Nat} {m : Mp} {k : K3} {x : X3} {a : D} (hT : T i_seal sp_seal) (hL : n + 2 < L) (h : Fine n a) (hs : a.sz ≤ 3000)
    (hk : ∀ m', Fr [] m m' → k (.int (sealD a)) m') : callS T L i_seal [a] m k x := by
  refine x_call hT ⟨n, a⟩ hL ⟨rfl, h, hs⟩ ?_ (fun _ _ h => h.elim)
  rintro d m' ⟨rfl, a3⟩
  exact hk m' a3
theorem b_seal (T : Tb) (hS : T i_codes_of sp_codes) : BodyOk (t_seal T) N_seal sp_seal 1 := by
  intro L a ds m k x hl hk hx hp hq he
  dsimp only [sp_seal] at hl hp hq he
  obtain ⟨n, a⟩ := a
  obtain ⟨rfl, h3, h4⟩ := hp
  dsimp only at *
  unfold t_seal
  walk_at "x"
  refine c_codes hS (by omega) h3 h4 (fun p m2 u1 u2 u3 => ?_)
  walk_at "x"
  refine for3 (fun i s m5 => m5 = m2 ∧ ∃ c2, s = [some a, some (.int (sealOn 7 ((codeD a).take i))), c2]) ⟨rfl, _, rfl⟩ (fun i s m5 _ h => by rw [h.1]; exact RL.of u1) ?_ ?_
  · rintro i d s m5 hd ⟨rfl, c2, rfl⟩
    obtain ⟨c, hc, rfl⟩ : ∃ c, (codeD a)[i]? = some c ∧ d = .int c := by
      rw [List.getElem?_map] at hd
      cases e : (codeD a)[i]? with
      | none => rw [e] at hd; cases hd
      | some c => rw [e] at hd; exact ⟨c, rfl, (Option.some.inj hd).symm⟩
    have hb := sealOn_nn (a := 7) (by decide) (by decide) ((codeD a).take i)
    walk_at "x"
    refine ⟨rfl, some (.int c), ?_⟩
    rw [List.take_add_one, hc, sealOn_app]; rfl
  · rintro s m5 ⟨rfl, c2, rfl⟩
    rw [List.length_map, List.take_length]
    walk_at "x"
    exact hq _ _ ⟨rfl, u3⟩

/-! k91: checks -/
def sp_check : FSpec where
  al := Sg
  lev := fun _ => 4
  pre := fun (w : Sg) ds m => ds = [dS w] ∧ w.length ≤ 100000 ∧ ∀ c ∈ w, paySg c
  post := fun (w : Sg) m d m' => d = .int (chk w) ∧ Fr [] m m'
  exc := fun _ _ _ _ => False
theorem pc_fine {w : Sg} {i : Nat} (h : ∀ c ∈ w, paySg c) : TxtOk (SX.S (pcAt w i)) := by
  refine ⟨Nat.le_trans (pc_len (w := w) (i := i)) (by decide), fun c hc => ?_⟩
  obtain ⟨e, he, rfl⟩ := pc_mem hc
  have := h e he
  unfold paySg at this
  unfold sw SgOk
  split <;> omega
theorem chk_fine {w : Sg} {i n : Nat} (h : ∀ c ∈ w, paySg c) : Fine 1 (.tup [.int (chkTo w n), dS (pcAt w i)]) := by
  have h1 := chkTo_ok (w := w) (n := n)
  refine Fine.tup (by show 2 ≤ 40; decide) (fun d hd => ?_)
  rcases List.mem_cons.mp hd with rfl | hd
  · exact Fine.int (by unfold NumOk; omega)
  · rcases List.mem_cons.mp hd with rfl | hd
    · exact Fine.str (pc_fine h)
    · cases hd
theorem b_check (T : Tb) (hS : T i_seal sp_seal) : BodyOk (t_check_of T) N_check_of sp_check 1 := by
  intro L (w : Sg) ds m k x hl hk hx hp hq he
  dsimp only [sp_check] at hl hp hq he
  obtain ⟨rfl, hw, hp⟩ := hp
  unfold t_check_of
  walk_at "x"
  refine fx_lenW hw ?_
  walk_at "x"
  refine x_ir3' (rgc50 hw) ?_
  refine for3 (fun i s m5 => (∃ c2, s = [some (dS w), some (.int (chkTo w i)), c2]) ∧ Fr [] m m5) ⟨⟨_, rfl⟩, by walk_at "fr"⟩ (fun _ _ _ _ _ => True.intro) ?_ ?_
  · rintro i d s m5 hd ⟨⟨c2, rfl⟩, t2⟩
    obtain ⟨h8, h9⟩ := rngD_get hd
    obtain rfl : d = .int ((50 * i : Nat) : Int) := by rw [h9]; congr 1; omega
    walk_at "x"
    refine x_repC ?_
    walk_at "x"
    refine xf_repC (by show w.length ≤ _; exact hw) ?_
    rw [show ((50 * i : Nat) : Int) + 50 = ((50 * i + 50 : Nat) : Int) by omega, cutW, repW, show 50 * i + 50 - 50 * i = 50 by omega]
    walk_at "x"
    refine c_seal hS (n := 1) (by omega) (chk_fine (w := w) (i := i) (n := i) hp) (by simp [D.sz, D.szs]) (fun m6 f6 => ?_)
    walk_at "x"
    refine ⟨⟨some (.int ((50 * i : Nat) : Int)), ?_⟩, by walk_at "fr"⟩
    rw [chkTo_next]
    rfl
  · rintro s m5 ⟨⟨c2, rfl⟩, t2⟩
    rw [rngD_length]
    walk_at "x"
    exact hq _ _ ⟨rfl, t2⟩
theorem c_check {T : Tb} {L : Nat} {m : Mp} {k : K3} {x : X3} {w : Sg} (hT : T i_check_of sp_check) (hL : 4 < L) (h0 : w.length ≤ 100000) (h1 : ∀ c ∈ w, paySg c) (hk : ∀ m', Fr [] m m' → k (.int (chk w)) m') : callS T L i_check_of [dS w] m k x := by
  refine x_call hT w hL ⟨rfl, h0, h1⟩ ?_ (fun _ _ h => h.elim)
  rintro d m' ⟨rfl, a3⟩
  exact hk m' a3
/-! the law's own -/
def sp_lsealed : FSpec where
  al := Int × Sg
  lev := fun _ => 0
  pre := fun a ds m => ds = [.int a.1, dS a.2] ∧ 0 ≤ a.1 ∧ a.1 ≤ 2305843009213693951 ∧ a.2.length ≤ 50 ∧ ∀ c ∈ a.2, c < 128
  post := fun a m d m' => d = .int (sealD (.tup [.int a.1, dS a.2])) ∧ Fr [] m m'
  exc := fun _ _ _ _ => False
theorem b_lsealed (T : Tb) : BodyOk (t_law_sealed T) N_law_sealed sp_lsealed 2 := by
  intro L a ds m k x hl hk hx hp hq he
  dsimp only [sp_lsealed] at hl hp hq he
  obtain ⟨n, w⟩ := a
  obtain ⟨rfl, n0, n1, hw, hc⟩ := hp
  dsimp only at *
  unfold t_law_sealed
  walk_at "x"
  refine fx_lenW (by omega) ?_
  walk_at "x"
  rename_i p hp
  refine fx_lenW (by omega) ?_
  walk_at "x"
  refine x_ir3' (rgc7 (by omega)) ?_
  refine for3 (fun i s m5 => ∃ c3 c4 c5 c6 c7, s = [some (.int n), some (dS w), some (.ref p), c3, c4, c5, c6, c7] ∧ m5 p = some (.lst (([4, 2, 2, (n + 1000000000000000000000000000000) / 1000000000000000, (n + 1000000000000000000000000000000) % 1000000000000000, 3, (w.length : Int)] ++ (List.range i).map (chunkAt w)).map D.int)) ∧ Fr [] m m5) ⟨_, _, _, _, _, rfl, mset_same, by walk_at "fr"⟩ (fun _ _ _ _ _ => True.intro) ?_ ?_
  · rintro i d s m5 hd ⟨c3, c4, c5, c6, c7, rfl, t1, t2⟩
    obtain ⟨h8, h9⟩ := rngD_get hd
    obtain rfl : d = .int ((7 * i : Nat) : Int) := by rw [h9]; congr 1; omega
    walk_at "x"
    refine xf_slS' (by show w.length ≤ _; omega) ?_
    rw [show ((7 * i : Nat) : Int) + 7 = ((7 * i + 7 : Nat) : Int) by omega, cutW, show 7 * i + 7 - 7 * i = 7 by omega]
    walk_at "x"
    obtain ⟨y, hcut⟩ : ∃ y, y = (w.drop (7 * i)).take 7 := ⟨_, rfl⟩
    rw [← hcut]
    have hy : ∀ c ∈ y, c < 128 := fun c h => hc c (List.mem_of_mem_drop (List.mem_of_mem_take (hcut ▸ h)))
    have hyl : y.length ≤ 7 := by rw [hcut, List.length_take]; omega
    refine for3 (fun j s m6 => m6 = m5 ∧ ∃ c5, s = [some (.int n), some (dS w), some (.ref p), some (.int ((7 * i : Nat) : Int)), some (.int (chunkD (y.take j))), c5, c6, c7]) ⟨rfl, _, rfl⟩ (fun _ _ _ _ _ => True.intro) ?_ ?_
    · rintro j d s m6 hd ⟨rfl, c5, rfl⟩
      obtain ⟨c, hcc, rfl⟩ := signsW hd
      have hb := chunk_small (l := y.take j) (fun e he => hy e (List.mem_of_mem_take he)) (by rw [List.length_take]; omega)
      walk_at "x"
      refine ⟨rfl, some (dS [c]), ?_⟩
      rw [chunk_take_next hcc, Int.mul_comm]
      rfl
    · rintro s m6 ⟨rfl, c5, rfl⟩
      rw [signs_len, List.take_length, hcut]
      walk_at "x"
      refine xf_app t1 (by simp; omega) ?_
      refine ⟨_, _, _, _, _, rfl, ?_, by walk_at "fr"⟩
      rw [tcodes_next, ← List.append_assoc, List.map_append (l₂ := [chunkAt w i])]; exact mset_same
  · rintro s m5 ⟨c3, c4, c5, c6, c7, rfl, t1, t2⟩
    rw [rngD_length] at t1
    have hcd : [4, 2, 2, (n + 1000000000000000000000000000000) / 1000000000000000, (n + 1000000000000000000000000000000) % 1000000000000000, 3, (w.length : Int)] ++ (List.range ((w.length + 6) / 7)).map (chunkAt w) = codeD (.tup [.int n, dS w]) := by
      simp only [codeD, codesD, tcodes, chunkN, tl_S, List.append_nil]
      rfl
    obtain ⟨cs, hcs⟩ : ∃ cs, cs = codeD (.tup [.int n, dS w]) := ⟨_, rfl⟩
    rw [hcd, ← hcs] at t1
    walk_at "x"
    refine for3 (fun i s m6 => m6 = m5 ∧ ∃ c7, s = [some (.int n), some (dS w), some (.ref p), c3, c4, c5, some (.int (sealOn 7 (cs.take i))), c7]) ⟨rfl, _, rfl⟩ (fun i s m6 _ h => by rw [h.1]; exact RL.of t1) ?_ ?_
    · rintro i d s m6 hd ⟨rfl, c7, rfl⟩
      obtain ⟨c, hcc, rfl⟩ : ∃ c, cs[i]? = some c ∧ d = .int c := by
        rw [List.getElem?_map] at hd
        cases e : cs[i]? with
        | none => rw [e] at hd; cases hd
        | some c => rw [e] at hd; exact ⟨c, rfl, (Option.some.inj hd).symm⟩
      have hb := sealOn_nn (a := 7) (by decide) (by decide) (cs.take i)
      walk_at "x"
      refine ⟨rfl, some (.int c), ?_⟩
      rw [List.take_add_one, hcc, sealOn_app]; rfl
    · rintro s m6 ⟨rfl, c7, rfl⟩
      rw [List.length_map, List.take_length]
      walk_at "x"
      exact hq _ _ ⟨by unfold sealD; rw [hcs], t2⟩
theorem c_lsealed {T : Tb} {L : Nat} {m : Mp} {k : K3} {x : X3} {n : Int} {w : Sg} (hT : T i_law_sealed sp_lsealed) (hL : 0 < L) (h0 : 0 ≤ n) (h1 : n ≤ 2305843009213693951) (h2 : w.length ≤ 50) (h3 : ∀ c ∈ w, c < 128)
    (hk : ∀ m', Fr [] m m' → k (.int (sealD (.tup [.int n, dS w]))) m') : callS T L i_law_sealed [.int n, dS w] m k x := by
  refine x_call hT (n, w) hL ⟨rfl, h0, h1, h2, h3⟩ ?_ (fun _ _ h => h.elim)
  rintro d m' ⟨rfl, a3⟩
  exact hk m' a3
def sp_lcheck : FSpec where
  al := Sg
  lev := fun _ => 1
  pre := fun (w : Sg) ds m => ds = [dS w] ∧ w.length ≤ 100000 ∧ ∀ c ∈ w, c < 128
  post := fun (w : Sg) m d m' => d = .int (chk w) ∧ Fr [] m m'
  exc := fun _ _ _ _ => False
theorem b_lcheck (T : Tb) (hS : T i_law_sealed sp_lsealed) : BodyOk (t_law_check T) N_law_check sp_lcheck 1 := by
  intro L (w : Sg) ds m k x hl hk hx hp hq he
  dsimp only [sp_lcheck] at hl hp hq he
  obtain ⟨rfl, hw, hp⟩ := hp
  unfold t_law_check
  walk_at "x"
  refine fx_lenW hw ?_
  walk_at "x"
  refine x_ir3' (rgc50 hw) ?_
  refine for3 (fun i s m5 => (∃ c2, s = [some (dS w), some (.int (chkTo w i)), c2]) ∧ Fr [] m m5) ⟨⟨_, rfl⟩, by walk_at "fr"⟩ (fun _ _ _ _ _ => True.intro) ?_ ?_
  · rintro i d s m5 hd ⟨⟨c2, rfl⟩, t2⟩
    obtain ⟨h8, h9⟩ := rngD_get hd
    obtain rfl : d = .int ((50 * i : Nat) : Int) := by rw [h9]; congr 1; omega
    walk_at "x"
    refine x_repC ?_
    walk_at "x"
    refine xf_repC (by show w.length ≤ _; exact hw) ?_
    rw [show ((50 * i : Nat) : Int) + 50 = ((50 * i + 50 : Nat) : Int) by omega, cutW, repW, show 50 * i + 50 - 50 * i = 50 by omega]
    walk_at "x"
    have h4 := chkTo_ok (w := w) (n := i)
    refine c_lsealed (w := pcAt w i) hS (by omega) h4.1 h4.2 pc_len (fun c hc => ?_) (fun m6 f6 => ?_)
    · obtain ⟨e, h5, rfl⟩ := pc_mem hc
      have := hp e h5
      unfold sw
      split <;> omega
    walk_at "x"
    refine ⟨⟨some (.int ((50 * i : Nat) : Int)), ?_⟩, by walk_at "fr"⟩
    rw [chkTo_next]
    rfl
  · rintro s m5 ⟨⟨c2, rfl⟩, t2⟩
    rw [rngD_length]
    walk_at "x"
    exact hq _ _ ⟨rfl, t2⟩
theorem c_lcheck {T : Tb} {L : Nat} {m : Mp} {k : K3} {x : X3} {w : Sg} (hT : T i_law_check sp_lcheck) (hL : 1 < L) (h0 : w.length ≤ 100000) (h1 : ∀ c ∈ w, c < 128) (hk : ∀ m', Fr [] m m' → k (.int (chk w)) m') : callS T L i_law_check [dS w] m k x := by
  refine x_call hT w hL ⟨rfl, h0, h1⟩ ?_ (fun _ _ h => h.elim)
  rintro d m' ⟨rfl, a3⟩
  exact hk m' a3

/-! k91: numbers, payloads -/
def numH (h : Sg) : Option Nat := if h = [] ∨ 20 < h.length ∨ (h.head? = some 48 ∧ 1 < h.length) then none else if ∀ c ∈ h, c ∈ sgF then some (NumText.digitsVal h) else none
def headOf (k : Nat) (r : Sg) : Sg := r.takeWhile fun c => c != k
def numAt (k : Nat) (w : Sg) (i : Nat) : Option (Nat × Nat) := if k ∈ w.drop i then (numH (headOf k (w.drop i))).map fun v => (v, i + (headOf k (w.drop i)).length + 1) else none
theorem head_mem {k : Nat} : ∀ {r : Sg}, k ∈ r → r[(headOf k r).length]? = some k ∧ (headOf k r).length < r.length
  | [], h => nomatch h
  | c :: r, h => by
    unfold headOf
    by_cases e : c = k
    · subst e
      simp
    · have h2 : k ∈ r := by
        rcases List.mem_cons.mp h with h | h
        · exact absurd h.symm e
        · exact h
      have := head_mem h2
      unfold headOf at this
      rw [List.takeWhile_cons, if_pos (bne_iff_ne.mpr e)]
      simp only [List.length_cons, List.getElem?_cons_succ]
      exact ⟨this.1, by omega⟩
theorem head_take {k : Nat} : ∀ {r : Sg}, headOf k r = r.take (headOf k r).length
  | [] => rfl
  | c :: r => by
    have := head_take (k := k) (r := r)
    unfold headOf at this ⊢
    by_cases e : c = k
    · subst e
      simp
    · rw [List.takeWhile_cons, if_pos (bne_iff_ne.mpr e)]
      simp only [List.length_cons, List.take_succ_cons]
      rw [← this]
theorem head_at {k : Nat} : ∀ {r : Sg} {j : Nat}, (∀ c ∈ r.take j, c ≠ k) → r[j]? = some k → headOf k r = r.take j ∧ k ∈ r
  | [], j, _, h => nomatch h
  | c :: r, 0, _, h => by
    cases h
    unfold headOf
    simp
  | c :: r, j + 1, h1, h2 => by
    have e : c ≠ k := h1 c (by simp)
    have := head_at (r := r) (j := j) (fun d hd => h1 d (by rw [List.take_succ_cons]; exact List.mem_cons_of_mem _ hd)) (by simpa using h2)
    unfold headOf at this ⊢
    rw [List.takeWhile_cons, if_pos (bne_iff_ne.mpr e), this.1]
    exact ⟨by simp, List.mem_cons_of_mem _ this.2⟩
theorem head_len {k : Nat} {r : Sg} : (headOf k r).length ≤ r.length := (List.takeWhile_sublist _).length_le
theorem numH_good {h : Sg} {v : Nat} (e : numH h = some v) : h ≠ [] ∧ h.length ≤ 20 ∧ ¬ (h.head? = some 48 ∧ 1 < h.length) ∧ (∀ c ∈ h, c ∈ sgF) ∧ v = NumText.digitsVal h := by
  unfold numH at e
  split at e
  · cases e
  · rename_i z
    split at e
    · rename_i z2
      cases e
      exact ⟨fun q => z (.inl q), by have : ¬ 20 < h.length := fun q => z (.inr (.inl q)); omega, fun q => z (.inr (.inr q)), z2, rfl⟩
    · cases e
section
variable {k : Nat} {w : Sg} {i j : Nat}
theorem num_yes (hf : ∀ c ∈ (w.drop i).take j, c ∈ sgF) (hk : k ∉ sgF) (hj : (w.drop i)[j]? = some k) (h1 : (w.drop i).take j ≠ []) (h2 : ((w.drop i).take j).length ≤ 20) (h3 : ¬ (((w.drop i).take j).head? = some 48 ∧ 1 < ((w.drop i).take j).length)) :
    numAt k w i = some (NumText.digitsVal ((w.drop i).take j), i + j + 1) := by
  obtain ⟨e1, e2⟩ := head_at (k := k) (fun c hc e => hk (by rw [← e]; exact hf c hc)) hj
  have hl : ((w.drop i).take j).length = j := by
    have := (List.getElem?_eq_some_iff.mp hj).1
    rw [List.length_take]
    omega
  unfold numAt
  rw [if_pos e2, e1]
  have : numH ((w.drop i).take j) = some (NumText.digitsVal ((w.drop i).take j)) := by
    unfold numH
    rw [if_neg, if_pos hf]
    rintro (q | q | q)
    · exact h1 q
    · omega
    · exact h3 q
  rw [this, hl]
  rfl
/-- the walk over figures ended at j -/
theorem num_no (hf : ∀ c ∈ (w.drop i).take j, c ∈ sgF) (hk : k ∉ sgF) (hx : j = (w.drop i).length ∨ (∃ c, (w.drop i)[j]? = some c ∧ c ∉ sgF) ∨ 20 < j) (hj : j ≤ (w.drop i).length)
    (h : (w.drop i).take j = [] ∨ 20 < ((w.drop i).take j).length ∨ (((w.drop i).take j).head? = some 48 ∧ 1 < ((w.drop i).take j).length) ∨ (w.drop i)[j]? ≠ some k) : numAt k w i = none := by
  unfold numAt
  split
  · rename_i hm
    obtain ⟨a1, a2⟩ := head_mem hm
    cases e : numH (headOf k (w.drop i)) with
    | none => rfl
    | some v =>
      exfalso
      obtain ⟨b1, b2, b3, b4, b5⟩ := numH_good e
      have ht := head_take (k := k) (r := w.drop i)
      generalize hn : (headOf k (w.drop i)).length = n at a1 a2 b2 b3 ht
      rw [ht] at b1 b3 b4
      have hjn : j = n := by
        by_cases q : j < n
        · exfalso
          rcases hx with hx | ⟨c, hc, hx⟩ | hx
          · omega
          · refine hx (b4 c (List.mem_of_getElem? (i := j) ?_))
            rw [List.getElem?_take_of_lt q]
            exact hc
          · omega
        · by_cases q2 : n < j
          · exfalso
            refine hk (hf k (List.mem_of_getElem? (i := n) ?_))
            rw [List.getElem?_take_of_lt q2]
            exact a1
          · omega
      subst hjn
      have hl : ((w.drop i).take j).length = j := by rw [List.length_take]; omega
      rcases h with h | h | h | h
      · exact b1 h
      · omega
      · rw [hl] at h
        exact b3 h
      · exact h a1
  · rfl
theorem num_lt {v e : Nat} (h : numAt k w i = some (v, e)) : i < e ∧ e ≤ w.length := by
  unfold numAt at h
  split at h
  · rename_i hm
    have := (head_mem hm).2
    rw [List.length_drop] at this
    cases q : numH (headOf k (w.drop i)) with
    | none => rw [q] at h; cases h
    | some v =>
      rw [q] at h
      cases h
      omega
  · cases h
end
def numX (o : Option (Nat × Nat)) : D := match o with
  | some (v, e) => .tup [.int (v : Int), .int (e : Int)]
  | none => .non
def sp_numat : FSpec where
  al := Sg × Nat × Nat
  lev := fun _ => 0
  pre := fun a ds m => ds = [dS a.1, .int a.2.1, dS [a.2.2]] ∧ a.1.length ≤ 100000 ∧ a.2.1 ≤ a.1.length ∧ a.2.2 ∉ sgF
  post := fun a m d m' => d = numX (numAt a.2.2 a.1 a.2.1) ∧ m' = m
  exc := fun _ _ _ _ => False
theorem c_numat {T : Tb} {L : Nat} {m : Mp} {k : K3} {x : X3} {w : Sg} {i c : Nat} (hT : T i_number_at sp_numat) (hL : 0 < L) (h0 : w.length ≤ 100000) (h1 : i ≤ w.length) (h2 : c ∉ sgF) (hk : k (numX (numAt c w i)) m) : callS T L i_number_at [dS w, .int i, dS [c]] m k x := by
  refine x_call hT (w, i, c) hL ⟨rfl, h0, h1, h2⟩ ?_ (fun _ _ h => h.elim)
  rintro d m' ⟨rfl, rfl⟩
  exact hk
theorem take1 {w : Sg} {j c : Nat} : (w.drop j).take 1 = [c] ↔ w[j]? = some c := by
  rw [← List.head?_drop]
  cases w.drop j with
  | nil => simp
  | cons a l => simp
theorem b_numat (T : Tb) : BodyOk (t_number_at T) N_number_at sp_numat 3 := by
  intro L a ds m k x hl hk hx hp hq he
  dsimp only [sp_numat] at hl hp hq he
  obtain ⟨w, i, c⟩ := a
  obtain ⟨rfl, h0, h1, h2⟩ := hp
  dsimp only at *
  have hr : (w.drop i).length = w.length - i := List.length_drop
  unfold t_number_at
  walk_at "x"
  refine x_whlJ (fun s m5 => m5 = m ∧ ∃ j, j ≤ 21 ∧ j ≤ (w.drop i).length ∧ (∀ e ∈ (w.drop i).take j, e ∈ sgF) ∧ s = [some (dS w), some (.int i), some (dS [c]), some (.int (i + j : Nat)), none] ∧ (j = (w.drop i).length ∨ (∃ c, (w.drop i)[j]? = some c ∧ c ∉ sgF) ∨ 20 < j))
    (fun n s m5 => m5 = m ∧ ∃ j, n = 30 - j ∧ j ≤ 21 ∧ j ≤ (w.drop i).length ∧ (∀ e ∈ (w.drop i).take j, e ∈ sgF) ∧ s = [some (dS w), some (.int i), some (dS [c]), some (.int (i + j : Nat)), none]) 30 ⟨rfl, 0, rfl, by decide, Nat.zero_le _, fun e he => (by cases he), rfl⟩ ?_ ?_
  rotate_left
  · rintro nn hn n s m5 ⟨rfl, j, rfl, j1, j2, j3, rfl⟩
    walk_at "x"
    refine fx_lenW h0 ?_
    walk_at "x"
    refine x_iD (fun h => ?_) (fun h => ?_)
    rotate_left
    · walk_at "x"
      exact hn _ _ ⟨rfl, j, j1, j2, j3, rfl, .inl (by omega)⟩
    walk_at "x"
    have hlt : j < (w.drop i).length := by omega
    obtain ⟨e, he⟩ : ∃ e, (w.drop i)[j]? = some e := ⟨_, List.getElem?_eq_getElem hlt⟩
    have he' : w[i + j]? = some e := by rw [List.getElem?_drop] at he; exact he
    refine fx_ixW h0 (by rw [atI_of_nat (by omega)]; exact he') ?_
    walk_at "x"
    refine xf_inS ?_
    by_cases hv : e ∈ sgF
    rotate_left
    · rw [decF hv]
      walk_at "x"
      exact hn _ _ ⟨rfl, j, j1, j2, j3, rfl, .inr (.inl ⟨e, he, hv⟩)⟩
    rw [decT hv]
    walk_at "x"
    refine x_iD (fun h => ?_) (fun h => ?_)
    rotate_left
    · walk_at "x"
      exact hn _ _ ⟨rfl, j, j1, j2, j3, rfl, .inr (.inr (by omega))⟩
    walk_at "x"
    refine ⟨29 - j, by omega, rfl, j + 1, by omega, by omega, by omega, fun v hv2 => ?_, ?_⟩
    · rw [take_snoc he] at hv2
      rcases List.mem_append.mp hv2 with hv2 | hv2
      · exact j3 v hv2
      · rw [List.mem_singleton.mp hv2]; exact hv
    · rw [show ((i + (j + 1) : Nat) : Int) = ((i + j : Nat) : Int) + 1 by omega]
      rfl
  rintro s m5 ⟨rfl, j, j1, j2, j3, rfl, jx⟩
  have hlen : ((w.drop i).take j).length = j := by rw [List.length_take]; omega
  walk_at "x"
  refine xf_slS' (by show w.length ≤ _; omega) ?_
  rw [cutW, show i + j - i = j by omega]
  walk_at "x"
  have no := fun h => hq _ _ ⟨(show D.non = numX (numAt c w i) by rw [num_no j3 h2 jx j2 h]; rfl), rfl⟩
  rw [show decide (SX.S ((w.drop i).take j) = Str.ofString "") = decide ((w.drop i).take j = []) from decide_eq_decide.mpr S_eq]
  by_cases g1 : (w.drop i).take j = []
  · rw [decT g1]
    walk_at "x"
    exact no (.inl g1)
  rw [decF g1]
  walk_at "x"
  refine fx_lenW (by omega) ?_
  walk_at "x"
  refine x_iD (fun h => ?_) (fun g2 => ?_)
  · walk_at "x"
    exact no (.inr (.inl (by omega)))
  walk_at "x"
  obtain ⟨e, l, hel⟩ := List.exists_cons_of_ne_nil g1
  have hhd : ((w.drop i).take j).head? = some e := by rw [hel]; rfl
  refine fx_ixW (by omega) (atI_hd hhd) ?_
  walk_at "x"
  rw [dsg (k := 48) (z := Str.ofString "0") rfl]
  by_cases h48 : e = 48
  case' neg =>
    have g3 : ¬ (((w.drop i).take j).head? = some 48 ∧ 1 < ((w.drop i).take j).length) := fun g => h48 (by rw [hhd] at g; exact Option.some.inj g.1)
    rw [decF h48]
    walk_at "x"
  case' pos =>
    rw [decT h48]
    walk_at "x"
    rw [show decide (SX.S ((w.drop i).take j) = Str.ofString "0") = decide ((w.drop i).take j = [48]) from decide_eq_decide.mpr S_eq]
    by_cases g4 : (w.drop i).take j = [48]
    case neg =>
      rw [decF g4]
      walk_at "x"
      refine no (.inr (.inr (.inl ⟨by rw [hhd, h48], ?_⟩)))
      cases l with
      | nil => exact absurd (by rw [hel, h48]) g4
      | cons a l => rw [hel]; simp
    case' pos =>
      have g3 : ¬ (((w.drop i).take j).head? = some 48 ∧ 1 < ((w.drop i).take j).length) := fun g => by rw [g4] at g; exact absurd g.2 (by decide)
      rw [decT g4]
      walk_at "x"
  all_goals
    refine xf_slS' (by show w.length ≤ _; omega) ?_
    rw [show ((i + j : Nat) : Int) + 1 = ((i + j + 1 : Nat) : Int) by omega, cutW, show i + j + 1 - (i + j) = 1 by omega]
    walk_at "x"
    rw [show decide (SX.S ((w.drop (i + j)).take 1) = SX.S [c]) = decide ((w.drop i)[j]? = some c) from decide_eq_decide.mpr (S_eq.trans (by
      rw [← List.drop_drop]
      exact take1)), ]
    refine x_iN (fun h => ?_) (fun g5 => ?_)
    · walk_at "x"
      exact no (.inr (.inr (.inr h)))
    walk_at "x"
    refine xf_intS (PySem.intText_digits (fun e he => mem_F.mp (j3 e he)) g1 (by rw [str_len]; show ((w.drop i).take j).length ≤ _; omega)) (by rw [str_len]; show ((w.drop i).take j).length ≤ _; omega) ?_
    walk_at "x"
    refine hq _ _ ⟨?_, rfl⟩
    rw [num_yes j3 h2 g5 g1 (by omega) g3]
    rfl
def isPay (w : Sg) : Prop := w.getLast? = some 10 ∧ ∀ c ∈ w, paySg c
instance {w : Sg} : Decidable (isPay w) := by unfold isPay; exact inferInstance
theorem cut_end {w : Sg} : cutS (SX.S w) (some (-1)) none = SX.S (w.drop (w.length - 1)) := by
  rw [← S_of (z := cutS _ _ _), cutS_list, str_len, tl_S, HT.sIx_none]
  have e1 : HT.sIx w.length 0 (some (-1)) = w.length - 1 := by
    show (if (-1 : Int) < 0 then ((-1 : Int) + (w.length : Int)).toNat else min (-1 : Int).toNat w.length) = _
    rw [if_pos (by decide)]
    omega
  rw [e1, List.take_of_length_le (by rw [List.length_drop]; omega)]
theorem cut_but {w : Sg} : cutS (SX.S w) none (some (-1)) = SX.S w.dropLast := by
  rw [← S_of (z := cutS _ _ _), cutS_list, str_len, tl_S, HT.sIx_none]
  have e1 : HT.sIx w.length w.length (some (-1)) = w.length - 1 := by
    show (if (-1 : Int) < 0 then ((-1 : Int) + (w.length : Int)).toNat else min (-1 : Int).toNat w.length) = _
    rw [if_pos (by decide)]
    omega
  rw [e1, List.drop_zero, Nat.sub_zero, List.dropLast_eq_take]
theorem drop_end {w : Sg} {c : Nat} : w.drop (w.length - 1) = [c] ↔ w.getLast? = some c := by
  rcases List.eq_nil_or_concat w with rfl | ⟨l, a, rfl⟩
  · simp
  · simp
def sp_ispay : FSpec where
  al := Sg
  lev := fun _ => 0
  pre := fun (w : Sg) ds m => ds = [dS w] ∧ w.length ≤ 100000
  post := fun (w : Sg) m d m' => d = .bl (decide (isPay w)) ∧ m' = m
  exc := fun _ _ _ _ => False
theorem c_ispay {T : Tb} {L : Nat} {m : Mp} {k : K3} {x : X3} {w : Sg} (hT : T i_is_payload sp_ispay) (hL : 0 < L) (h0 : w.length ≤ 100000) (hk : k (.bl (decide (isPay w))) m) : callS T L i_is_payload [dS w] m k x := by
  refine x_call hT w hL ⟨rfl, h0⟩ ?_ (fun _ _ h => h.elim)
  rintro d m' ⟨rfl, rfl⟩
  exact hk
theorem b_ispay (T : Tb) : BodyOk (t_is_payload T) N_is_payload sp_ispay 1 := by
  intro L (w : Sg) ds m k x hl hk hx hp hq he
  dsimp only [sp_ispay] at hl hp hq he
  obtain ⟨rfl, hw⟩ := hp
  have no : ¬ isPay w → k (.bl false) m := fun h => hq _ _ ⟨by rw [decF h], rfl⟩
  unfold t_is_payload
  walk_at "x"
  refine xf_slS' (by show w.length ≤ _; omega) ?_
  rw [cut_end]
  walk_at "x"
  rw [show decide (SX.S (w.drop (w.length - 1)) = Str.ofString "\n") = decide (w.getLast? = some 10) from decide_eq_decide.mpr ((S_eq (b := [10])).trans drop_end)]
  refine x_iN (fun h => ?_) (fun h => ?_)
  · walk_at "x"
    exact no fun g => h g.1
  walk_at "x"
  refine for3 (fun i s m5 => m5 = m ∧ (∃ c2, s = [some (dS w), c2]) ∧ ∀ c ∈ w.take i, paySg c) ⟨rfl, ⟨_, rfl⟩, fun c hc => (by cases hc)⟩ (fun _ _ _ _ _ => True.intro) ?_ ?_
  · rintro i d s m5 hd ⟨rfl, ⟨c3, rfl⟩, h2⟩
    obtain ⟨c, hc, rfl⟩ := signsW hd
    have hm := List.mem_of_getElem? hc
    have ok : paySg c → ∃ c2, ([some (dS w), some (dS [c])] : S3) = [some (dS w), c2] ∧ ∀ c ∈ w.take (i + 1), paySg c := fun hv => ⟨_, rfl, fun e he => by
      rw [take_snoc hc] at he
      rcases List.mem_append.mp he with he | he
      · exact h2 e he
      · rw [List.mem_singleton.mp he]; exact hv⟩
    walk_at "x"
    rw [dsg (k := 10) (z := Str.ofString "\n") rfl]
    refine x_iN (fun g1 => ?_) (fun g1 => ?_)
    rotate_left
    · walk_at "x"
      obtain ⟨c2, e, h⟩ := ok (.inl g1)
      exact ⟨rfl, ⟨c2, e⟩, h⟩
    walk_at "x"
    refine x_iD (fun g2 => ?_) (fun g2 => ?_)
    · walk_at "x"
      exact no fun g => by have := g.2 c hm; unfold paySg at this; omega
    walk_at "x"
    refine x_iD (fun g3 => ?_) (fun g3 => ?_)
    · walk_at "x"
      exact no fun g => by have := g.2 c hm; unfold paySg at this; omega
    walk_at "x"
    refine x_iD (fun g4 => ?_) (fun g4 => ?_)
    · walk_at "x"
      exact no fun g => by have := g.2 c hm; unfold paySg at this; omega
    walk_at "x"
    obtain ⟨c2, e, h⟩ := ok (.inr ⟨by omega, by omega, by omega⟩)
    exact ⟨rfl, ⟨c2, e⟩, h⟩
  · rintro s m5 ⟨rfl, ⟨c3, rfl⟩, h2⟩
    rw [signs_len, List.take_length] at h2
    walk_at "x"
    exact hq _ _ ⟨by rw [decT (show isPay w from ⟨h, h2⟩)], rfl⟩

/-! k91: records read by the program -/
def recAt (w : Sg) (i : Nat) : Option (Sg × Nat) := match numAt 58 w i with
  | none => none
  | some (n, f) => if ((w.drop f).take n).length < n ∨ ¬ isPay ((w.drop f).take n) then none else match numAt 10 w (f + n) with
    | none => none
    | some (c, e) => if (c : Int) = chk ((w.drop f).take n) then some ((w.drop f).take n, e) else none
def lnD (p : Sg) : List Str := Txt.split (SX.S p.dropLast) ⟨#[10]⟩
theorem rec_lt {w : Sg} {i e : Nat} {p : Sg} (h : recAt w i = some (p, e)) : i < e ∧ e ≤ w.length ∧ isPay p ∧ p.length ≤ w.length := by
  unfold recAt at h
  split at h
  · cases h
  · rename_i n f h1
    split at h
    · cases h
    · rename_i h2
      split at h
      · cases h
      · rename_i c e' h3
        split at h
        · cases h
          have a1 := num_lt h1
          have a2 := num_lt h3
          have h5 : isPay ((w.drop f).take n) := Decidable.byContradiction fun z => h2 (.inr z)
          refine ⟨by omega, a2.2, h5, ?_⟩
          rw [List.length_take, List.length_drop]
          omega
        · cases h
def sp_recat : FSpec where
  al := Sg × Nat
  lev := fun _ => 5
  pre := fun a ds m => ds = [dS a.1, .int a.2] ∧ a.1.length ≤ 100000 ∧ a.2 ≤ a.1.length
  post := fun a m d m' => (recAt a.1 a.2 = none ∧ d = .non ∧ Fr [] m m') ∨ ∃ p e q, recAt a.1 a.2 = some (p, e) ∧ d = .tup [.ref q, .int (e : Int)] ∧ m q = none ∧ m' q = some (.lst ((lnD p).map D.str)) ∧ Fr [] m m'
  exc := fun _ _ _ _ => False
theorem c_recat {T : Tb} {L : Nat} {m : Mp} {k : K3} {x : X3} {w : Sg} {i : Nat} (hT : T i_record_at sp_recat) (hL : 5 < L) (h0 : w.length ≤ 100000) (h1 : i ≤ w.length)
    (hn : ∀ m', recAt w i = none → Fr [] m m' → k .non m') (hs : ∀ p e q m', recAt w i = some (p, e) → m q = none → m' q = some (.lst ((lnD p).map D.str)) → Fr [] m m' → k (.tup [.ref q, .int (e : Int)]) m') : callS T L i_record_at [dS w, .int i] m k x := by
  refine x_call hT (w, i) hL ⟨rfl, h0, h1⟩ ?_ (fun _ _ h => h.elim)
  rintro d m' (⟨a, rfl, f⟩ | ⟨p, e, q, a, rfl, b, c, f⟩)
  · exact hn m' a f
  · exact hs p e q m' a b c f
theorem b_recat (T : Tb) (hN : T i_number_at sp_numat) (hP : T i_is_payload sp_ispay) (hC : T i_check_of sp_check) : BodyOk (t_record_at T) N_record_at sp_recat 2 := by
  intro L a ds m k x hl hk hx hp hq he
  dsimp only [sp_recat] at hl hp hq he
  obtain ⟨w, i⟩ := a
  obtain ⟨rfl, h0, h1⟩ := hp
  dsimp only at *
  have no : ∀ m', recAt w i = none → Fr [] m m' → k .non m' := fun m' h f => hq _ _ (.inl ⟨h, rfl, f⟩)
  unfold t_record_at
  walk_at "x"
  rw [show Str.ofString ":" = SX.S [58] from rfl]
  refine c_numat hN (by omega) h0 h1 (by rw [mem_F]; omega) ?_
  cases e1 : numAt 58 w i with
  | none =>
    unfold numX
    walk_at "x"
    exact no _ (by unfold recAt; rw [e1]) (Fr.refl _ _)
  | some r =>
  obtain ⟨n, f⟩ := r
  have hlt := num_lt e1
  unfold numX
  dsimp only
  walk_at "x"
  refine xf_slS' (by show w.length ≤ _; omega) ?_
  rw [show ((f : Nat) : Int) + (n : Int) = ((f + n : Nat) : Int) by omega, cutW, show f + n - f = n by omega]
  walk_at "x"
  have hpl : ((w.drop f).take n).length ≤ w.length := by rw [List.length_take, List.length_drop]; omega
  refine fx_lenW (by omega) ?_
  walk_at "x"
  refine x_iD (fun h => ?_) (fun g1 => ?_)
  · walk_at "x"
    refine no _ ?_ (Fr.refl _ _)
    unfold recAt
    rw [e1]
    exact if_pos (.inl (by omega))
  walk_at "x"
  refine c_ispay hP (by omega) (by omega) ?_
  walk_at "x"
  by_cases g2 : isPay ((w.drop f).take n)
  rotate_left
  · rw [decF g2]
    walk_at "x"
    refine no _ ?_ (Fr.refl _ _)
    unfold recAt
    rw [e1]
    exact if_pos (.inr g2)
  rw [decT g2]
  walk_at "x"
  have hfn : f + n ≤ w.length := by
    have : ((w.drop f).take n).length = n := by rw [List.length_take] at g1 ⊢; omega
    rw [List.length_take, List.length_drop] at this
    omega
  have hrec : recAt w i = match numAt 10 w (f + n) with
    | none => none
    | some (c, e) => if (c : Int) = chk ((w.drop f).take n) then some ((w.drop f).take n, e) else none := by
    unfold recAt
    rw [e1]
    exact if_neg (by rintro (z | z); · omega
                     · exact z g2)
  rw [show Str.ofString "\n" = SX.S [10] from rfl, show ((f : Nat) : Int) + (n : Int) = ((f + n : Nat) : Int) by omega]
  refine c_numat hN (by omega) h0 hfn (by rw [mem_F]; omega) ?_
  cases e2 : numAt 10 w (f + n) with
  | none =>
    unfold numX
    walk_at "x"
    exact no _ (by rw [hrec, e2]) (Fr.refl _ _)
  | some r =>
  obtain ⟨c, e⟩ := r
  unfold numX
  dsimp only
  walk_at "x"
  refine c_check hC (by omega) (by omega) g2.2 (fun m6 f6 => ?_)
  walk_at "x"
  refine x_iN (fun h => ?_) (fun g3 => ?_)
  · walk_at "x"
    exact no _ (by rw [hrec, e2]; exact if_neg h) f6
  walk_at "x"
  refine xf_slS' (by show ((w.drop f).take n).length ≤ _; omega) ?_
  rw [cut_but]
  walk_at "x"
  refine xf_split (c := 10) (by show (((w.drop f).take n).dropLast).length ≤ _; rw [List.length_dropLast]; omega) (fun q hq1 => ?_)
  walk_at "x"
  refine hq _ _ (.inr ⟨_, e, q, by rw [hrec, e2]; exact if_pos g3, rfl, ?_, mset_same, by walk_at "fr"⟩)
  walk_at "gn"

/-! k91: the law's numbers, signs, payloads -/
theorem tl_inj' {ys : List Str} : (ys.map TL.tl).map SX.S = ys := by
  rw [List.map_map]
  conv => rhs; rw [← List.map_id ys]
  exact List.map_congr_left fun z _ => SX.S_tl z
def splL (c : Nat) (w : Sg) : List Sg := (Txt.split (SX.S w) ⟨#[c]⟩).map TL.tl
theorem spl_D {c : Nat} {w : Sg} : (Txt.split (SX.S w) ⟨#[c]⟩).map D.str = wD (splL c w) := by
  have e := tl_inj' (ys := Txt.split (SX.S w) ⟨#[c]⟩)
  unfold splL
  conv => lhs; rw [← e]
  rw [List.map_map]; rfl
theorem spl_pos {c : Nat} {w : Sg} : 0 < (splL c w).length := by unfold splL; rw [List.length_map]; exact PyProof.Rows.split_pos _ _
theorem spl_join {c : Nat} {w : Sg} : TL.joinL [c] (splL c w) = w := by
  have h := congrArg TL.tl (PySem.StrLaws.join_split (SX.S w) ⟨#[c]⟩)
  rw [TL.tl_join] at h
  exact h
theorem spl_free {c : Nat} {w v : Sg} (h : v ∈ splL c w) : c ∉ v := by
  obtain ⟨y, hy, rfl⟩ := List.mem_map.mp h
  exact PySem.StrLaws.split_free (SX.S w) c y hy
theorem head_free {c : Nat} : ∀ {p : Sg}, c ∉ p → headOf c p = p
  | [], _ => rfl
  | a :: p, h => by
    have h1 : a ≠ c := fun e => h (by rw [e]; exact List.mem_cons_self)
    have := head_free (c := c) (p := p) fun z => h (List.mem_cons_of_mem _ z)
    unfold headOf at this ⊢
    rw [List.takeWhile_cons, if_pos (bne_iff_ne.mpr h1), this]
theorem join_cons {c : Nat} {p q : Sg} {ps : List Sg} : TL.joinL [c] (p :: q :: ps) = p ++ (c :: TL.joinL [c] (q :: ps)) := rfl
theorem join_head {c : Nat} {p : Sg} : ∀ {ps : List Sg}, c ∉ p → headOf c (TL.joinL [c] (p :: ps)) = p ∧ (c ∈ TL.joinL [c] (p :: ps) ↔ ps ≠ [])
  | [], h => ⟨head_free h, fun z => absurd z h, fun z => absurd rfl z⟩
  | q :: ps, h => by
    rw [join_cons]
    have := head_at (k := c) (r := p ++ (c :: TL.joinL [c] (q :: ps))) (j := p.length) (fun d hd e => h (by rw [List.take_left' rfl] at hd; rw [← e]; exact hd)) (by simp)
    rw [List.take_left' rfl] at this
    exact ⟨this.1, fun _ => List.cons_ne_nil _ _, fun _ => this.2⟩
theorem join_inj {c : Nat} : ∀ {ps qs : List Sg}, ps ≠ [] → qs ≠ [] → (∀ p ∈ ps, c ∉ p) → (∀ q ∈ qs, c ∉ q) → TL.joinL [c] ps = TL.joinL [c] qs → ps = qs
  | [], _, h, _, _, _, _ => absurd rfl h
  | _, [], _, h, _, _, _ => absurd rfl h
  | p :: ps, q :: qs, _, _, h1, h2, e => by
    obtain ⟨a1, a2⟩ := join_head (ps := ps) (h1 p List.mem_cons_self)
    obtain ⟨b1, b2⟩ := join_head (ps := qs) (h2 q List.mem_cons_self)
    rw [e] at a1 a2
    have epq : p = q := a1.symm.trans b1
    subst epq
    cases ps with
    | nil =>
      cases qs with
      | nil => rfl
      | cons r qs => exact absurd rfl (a2.mp (b2.mpr (List.cons_ne_nil _ _)))
    | cons r ps =>
      cases qs with
      | nil => exact absurd rfl (b2.mp (a2.mpr (List.cons_ne_nil _ _)))
      | cons t qs =>
        rw [join_cons, join_cons] at e
        have e2 := List.append_cancel_left e
        rw [join_inj (List.cons_ne_nil r ps) (List.cons_ne_nil t qs) (fun v hv => h1 v (List.mem_cons_of_mem _ hv)) (fun v hv => h2 v (List.mem_cons_of_mem _ hv)) (List.cons.inj e2).2]
theorem spl_is {c : Nat} {w : Sg} : ∃ ps, splL c w = headOf c w :: ps ∧ (c ∈ w ↔ ps ≠ []) := by
  have h1 := spl_pos (c := c) (w := w)
  have h2 := spl_join (c := c) (w := w)
  have h3 := fun v => spl_free (c := c) (w := w) (v := v)
  generalize splL c w = l at *
  cases l with
  | nil => exact absurd h1 (by decide)
  | cons p ps =>
    obtain ⟨a1, a2⟩ := join_head (ps := ps) (h3 p List.mem_cons_self)
    rw [h2] at a1 a2
    exact ⟨ps, by rw [a1], a2⟩
theorem spl_of {c : Nat} {ws : List Sg} (h0 : ws ≠ []) (h : ∀ v ∈ ws, c ∉ v) : splL c (TL.joinL [c] ws) = ws :=
  join_inj (List.ne_nil_of_length_pos spl_pos) h0 (fun _ hv => spl_free hv) h spl_join
/-! draws -/
def sp_mixed : FSpec where
  al := Int × Nat
  lev := fun _ => 0
  pre := fun a ds m => ds = [.int a.1, .int a.2] ∧ a.2 ≤ 1000
  post := fun a m d m' => m' = m ∧ ∃ r : Nat, d = .int r
  exc := fun _ _ _ _ => False
theorem b_mixed (T : Tb) : BodyOk (t_law_mixed T) N_law_mixed sp_mixed 2 := by
  intro L a ds m k x hl hk hx hp hq he
  dsimp only [sp_mixed] at hl hp hq he
  obtain ⟨c, n⟩ := a
  obtain ⟨rfl, hn⟩ := hp
  dsimp only at *
  have h1 := Int.emod_lt_of_pos c (show (0:Int) < 2147483629 by decide)
  have h2 := Int.emod_nonneg c (show (2147483629:Int) ≠ 0 by decide)
  unfold t_law_mixed
  walk_at "x"
  generalize (c % 2147483629 * (2 * (n : Int) + 60607) + 29 * n + 7) = z
  have h3 := Int.emod_lt_of_pos z (show (0:Int) < 2147483587 by decide)
  have h4 := Int.emod_nonneg z (show (2147483587:Int) ≠ 0 by decide)
  walk_at "x"
  have h5 : 0 ≤ z % 2147483587 * (z % 2147483587) % 2147483563 / 3 := Int.ediv_nonneg (Int.emod_nonneg _ (by decide)) (by decide)
  obtain ⟨r, hr⟩ := Int.eq_ofNat_of_zero_le h5
  refine hq _ _ ⟨rfl, r, ?_⟩
  rw [hr]
theorem c_mixed {T : Tb} {L : Nat} {m : Mp} {k : K3} {x : X3} {c : Int} {n : Nat} {z : Int} (hT : T i_law_mixed sp_mixed) (hL : 0 < L) (hz : z = (n : Int)) (h0 : n ≤ 1000) (hk : ∀ r : Nat, k (.int r) m) : callS T L i_law_mixed [.int c, .int z] m k x := by
  refine x_call hT (c, n) hL ⟨by rw [hz], h0⟩ ?_ (fun _ _ h => h.elim)
  rintro d m' ⟨rfl, r, rfl⟩
  exact hk r
def sgn (n : Int) : Nat := if (n % 94).toNat < 5 then 32 + (n % 94).toNat else 33 + (n % 94).toNat
theorem sgn_pay {n : Int} : paySg (sgn n) ∧ sgn n ≠ 10 := by
  unfold paySg sgn
  have h1 := Int.emod_lt_of_pos n (show (0:Int) < 94 by decide)
  have h2 := Int.emod_nonneg n (show (94:Int) ≠ 0 by decide)
  split <;> omega
theorem sgn_is {c : Nat} : sgn ((c : Int) - 32 - (if (37 : Int) < c then 1 else 0)) = c ↔ 32 ≤ c ∧ c ≤ 126 ∧ c ≠ 37 := by
  unfold sgn
  split <;> split <;> omega
def sp_sign : FSpec where
  al := Int
  lev := fun _ => 0
  pre := fun (n : Int) ds m => ds = [.int n]
  post := fun (n : Int) m d m' => m' = m ∧ d = dS [sgn n]
  exc := fun _ _ _ _ => False
abbrev sgs : Sg := (Str.ofString " !\"#$&'()*+,-./0123456789:;<=>?\x40ABCDEFGHIJKLMNOPQRSTUVWXYZ[\\]^_`").cps.toList ++ (Str.ofString "abcdefghijklmnopqrstuvwxyz{|}~").cps.toList
theorem sgs_at : ∀ k, k < 94 → sgs[k]? = some (if k < 5 then 32 + k else 33 + k) := by decide +kernel
theorem b_sign (T : Tb) : BodyOk (t_law_sign T) N_law_sign sp_sign 1 := by
  intro L (n : Int) ds m k x hl hk hx hp hq he
  dsimp only [sp_sign] at hl hp hq he
  subst hp
  have h1 := Int.emod_lt_of_pos n (show (0:Int) < 94 by decide)
  have h2 := Int.emod_nonneg n (show (94:Int) ≠ 0 by decide)
  obtain ⟨r, hr⟩ := Int.eq_ofNat_of_zero_le h2
  unfold t_law_sign
  walk_at "x"
  refine xf_addS' (by decide +kernel) ?_
  walk_at "x"
  refine fx_ixW (w := sgs) (by decide +kernel) (by
    rw [hr, atI_of_nat (by have : sgs.length = 94 := by decide +kernel
                           omega)]
    exact sgs_at r (by omega)) ?_
  refine hq _ _ ⟨rfl, ?_⟩
  unfold sgn
  rw [hr]
  rfl
theorem c_sign {T : Tb} {L : Nat} {m : Mp} {k : K3} {x : X3} {n : Int} (hT : T i_law_sign sp_sign) (hL : 0 < L) (hk : k (dS [sgn n]) m) : callS T L i_law_sign [.int n] m k x := by
  refine x_call hT n hL rfl ?_ (fun _ _ h => h.elim)
  rintro d m' ⟨rfl, rfl⟩
  exact hk
/-! numbers -/
def numI (o : Option Nat) : Int := match o with
  | some v => v
  | none => -1
def sp_lnum : FSpec where
  al := Sg
  lev := fun _ => 0
  pre := fun (w : Sg) ds m => ds = [dS w] ∧ w.length ≤ 100000
  post := fun (w : Sg) m d m' => Fr [] m m' ∧ d = .int (numI (numH w))
  exc := fun _ _ _ _ => False
theorem c_lnum {T : Tb} {L : Nat} {m : Mp} {k : K3} {x : X3} {w : Sg} (hT : T i_law_number sp_lnum) (hL : 0 < L) (h0 : w.length ≤ 100000) (hk : ∀ m', Fr [] m m' → k (.int (numI (numH w))) m') : callS T L i_law_number [dS w] m k x := by
  refine x_call hT w hL ⟨rfl, h0⟩ ?_ (fun _ _ h => h.elim)
  rintro d m' ⟨f, rfl⟩
  exact hk m' f
theorem b_lnum (T : Tb) : BodyOk (t_law_number T) N_law_number sp_lnum 1 := by
  intro L (w : Sg) ds m k x hl hk hx hp hq he
  dsimp only [sp_lnum] at hl hp hq he
  obtain ⟨rfl, hw⟩ := hp
  have no : ∀ m', Fr [] m m' → numH w = none → k (.int (-1)) m' := fun m' f h => hq _ _ ⟨f, by rw [h]; rfl⟩
  have no1 : ∀ m', Fr [] m m' → (w = [] ∨ 20 < w.length ∨ (w.head? = some 48 ∧ 1 < w.length)) → k (.int (-1)) m' := fun m' f h => no m' f (if_pos h)
  unfold t_law_number
  walk_at "x"
  rw [show decide (SX.S w = Str.ofString "") = decide (w = []) from decide_eq_decide.mpr S_eq]
  refine x_iD (fun h => ?_) (fun g1 => ?_)
  · walk_at "x"
    exact no1 _ (Fr.refl _ _) (.inl h)
  walk_at "x"
  refine fx_lenW hw ?_
  walk_at "x"
  refine x_iD (fun h => ?_) (fun g2 => ?_)
  · walk_at "x"
    exact no1 _ (Fr.refl _ _) (.inr (.inl (by omega)))
  walk_at "x"
  obtain ⟨e, l, hel⟩ := List.exists_cons_of_ne_nil g1
  have hhd : w.head? = some e := by rw [hel]; rfl
  refine fx_ixW (by omega) (atI_hd hhd) ?_
  walk_at "x"
  rw [dsg (k := 48) (z := Str.ofString "0") rfl]
  by_cases h48 : e = 48
  case' neg =>
    have g3 : ¬ (w.head? = some 48 ∧ 1 < w.length) := fun g => h48 (by rw [hhd] at g; exact Option.some.inj g.1)
    rw [decF h48]
    walk_at "x"
  case' pos =>
    rw [decT h48]
    walk_at "x"
    refine fx_lenW hw ?_
    walk_at "x"
    refine x_iD (fun h => ?_) (fun g4 => ?_)
    · walk_at "x"
      exact no1 _ (Fr.refl _ _) (.inr (.inr ⟨by rw [hhd, h48], by omega⟩))
    have g3 : ¬ (w.head? = some 48 ∧ 1 < w.length) := fun g => g4 (by omega)
    walk_at "x"
  all_goals
    rename_i q hq1
    refine ⟨fun j m' => m' q = some (.lst (((w.take j).map fun c => decide (c ∈ sgF)).map D.bl)) ∧ Fr [] m m', ⟨mset_same, by walk_at "fr"⟩, fun _ _ _ _ => True.intro, ?_, ?_⟩
    · rintro j d m' hd ⟨k1, k2⟩
      obtain ⟨c, hc, rfl⟩ := signsW hd
      walk_at "x"
      refine xf_inS ?_
      refine ⟨_, k1, by rw [List.length_map, List.length_map, List.length_take]; exact Nat.lt_of_le_of_lt (Nat.min_le_right _ _) (Nat.lt_of_le_of_lt hw (by decide)), ?_, by walk_at "fr"⟩
      rw [take_snoc hc, List.map_append, List.map_append]
      exact mset_same
    · rintro m' ⟨k1, k2⟩
      rw [signs_len, List.take_length] at k1
      walk_at "x"
      refine xf_all (RL.of k1) ?_
      walk_at "x"
      by_cases h5 : ∀ c ∈ w, c ∈ sgF
      · rw [show (w.map fun c => decide (c ∈ sgF)).all id = true by simpa using h5]
        walk_at "x"
        refine xf_intS (PySem.intText_digits (fun e he => mem_F.mp (h5 e he)) g1 (by rw [str_len]; show w.length ≤ _; omega)) (by rw [str_len]; show w.length ≤ _; omega) ?_
        refine hq _ _ ⟨k2, ?_⟩
        unfold numH
        rw [if_neg, if_pos h5]
        · rfl
        · rintro (z | z | z)
          · exact g1 z
          · omega
          · exact g3 z
      · rw [show (w.map fun c => decide (c ∈ sgF)).all id = false by rw [Bool.eq_false_iff]; simpa using h5]
        walk_at "x"
        refine no _ k2 ?_
        unfold numH
        rw [if_neg h5]
        exact ite_self _
/-! payloads -/
def sp_lgood : FSpec where
  al := Sg
  lev := fun _ => 1
  pre := fun (w : Sg) ds m => ds = [dS w] ∧ w.length ≤ 100000
  post := fun (w : Sg) m d m' => Fr [] m m' ∧ d = .bl (decide (isPay w))
  exc := fun _ _ _ _ => False
theorem c_lgood {T : Tb} {L : Nat} {m : Mp} {k : K3} {x : X3} {w : Sg} (hT : T i_law_good sp_lgood) (hL : 1 < L) (h0 : w.length ≤ 100000) (hk : ∀ m', Fr [] m m' → k (.bl (decide (isPay w))) m') : callS T L i_law_good [dS w] m k x := by
  refine x_call hT w hL ⟨rfl, h0⟩ ?_ (fun _ _ h => h.elim)
  rintro d m' ⟨f, rfl⟩
  exact hk m' f
theorem b_lgood (T : Tb) (hS : T i_law_sign sp_sign) : BodyOk (t_law_good T) N_law_good sp_lgood 1 := by
  intro L (w : Sg) ds m k x hl hk hx hp hq he
  dsimp only [sp_lgood] at hl hp hq he
  obtain ⟨rfl, hw⟩ := hp
  unfold t_law_good
  walk_at "x"
  refine xf_slS' (by show w.length ≤ _; omega) ?_
  rw [cut_end]
  walk_at "x"
  rw [show decide (SX.S (w.drop (w.length - 1)) = Str.ofString "\n") = decide (w.getLast? = some 10) from decide_eq_decide.mpr ((S_eq (b := [10])).trans drop_end)]
  refine x_iN (fun h => ?_) (fun h => ?_)
  · walk_at "x"
    exact hq _ _ ⟨Fr.refl _ _, by rw [decF (fun g : isPay w => h g.1)]⟩
  walk_at "x"
  rename_i q hq1
  refine ⟨fun j m' => m' q = some (.lst (((w.take j).map fun c => decide (paySg c)).map D.bl)) ∧ Fr [] m m', ⟨mset_same, by walk_at "fr"⟩, fun _ _ _ _ => True.intro, ?_, ?_⟩
  · rintro j d m' hd ⟨k1, k2⟩
    obtain ⟨c, hc, rfl⟩ := signsW hd
    have app : ∀ b : Bool, b = decide (paySg c) → mset m' q (.lst (((w.take j).map fun c => decide (paySg c)).map D.bl ++ [.bl b])) q = some (.lst (((w.take (j + 1)).map fun c => decide (paySg c)).map D.bl)) := fun b e => by
      rw [take_snoc hc, List.map_append, List.map_append, e]
      exact mset_same
    have hlen : ((((w.take j).map fun c => decide (paySg c)).map D.bl).length) < sizeLine := by rw [List.length_map, List.length_map, List.length_take]; exact Nat.lt_of_le_of_lt (Nat.min_le_right _ _) (Nat.lt_of_le_of_lt hw (by decide))
    walk_at "x"
    rw [dsg (k := 10) (z := Str.ofString "\n") rfl]
    by_cases g1 : c = 10
    · rw [decT g1]
      walk_at "x"
      refine ⟨_, k1, hlen, app _ (decT (.inl g1)).symm, by walk_at "fr"⟩
    · rw [decF g1]
      walk_at "x"
      rw [show (if decide ((37 : Int) < (c : Int)) = true then (1 : Int) else 0) = if (37 : Int) < (c : Int) then 1 else 0 by simp only [decide_eq_true_iff]]
      refine c_sign hS (by omega) ?_
      walk_at "x"
      rw [dsg (k := c) (z := SX.S [c]) rfl]
      refine ⟨_, k1, hlen, app _ ?_, by walk_at "fr"⟩
      refine decide_eq_decide.mpr (sgn_is.trans ?_)
      unfold paySg
      exact ⟨.inr, fun g => g.resolve_left g1⟩
  · rintro m' ⟨k1, k2⟩
    rw [signs_len, List.take_length] at k1
    refine xf_all (RL.of k1) ?_
    refine hq _ _ ⟨k2, ?_⟩
    congr 1
    refine Bool.eq_iff_iff.mpr ?_
    simp only [List.all_map, List.all_eq_true, Function.comp, id, decide_eq_true_iff]
    exact ⟨fun g => ⟨h, g⟩, fun g => g.2⟩

/-! k91: all records -/
def recsF : Nat → Sg → Nat → List (Sg × Nat)
  | 0, _, _ => []
  | f + 1, w, i => match recAt w i with
    | none => []
    | some (p, e) => (p, e) :: recsF f w e
theorem recsF_st {w : Sg} : ∀ {f g i : Nat}, w.length < f + i → w.length < g + i → i ≤ w.length → recsF f w i = recsF g w i
  | 0, _, _, h, _, h2 => by omega
  | _, 0, _, _, h, h2 => by omega
  | f + 1, g + 1, i, h1, h2, h3 => by
    unfold recsF
    cases e : recAt w i with
    | none => rfl
    | some r =>
      obtain ⟨p, e2⟩ := r
      have := rec_lt e
      dsimp only
      rw [recsF_st (f := f) (g := g) (i := e2) (by omega) (by omega) this.2.1]
def recs (w : Sg) : List (Sg × Nat) := recsF (w.length + 1) w 0
theorem recs_end {w : Sg} {i : Nat} (h : recAt w i = none) : recsF (w.length + 1 - i) w i = [] := by
  cases w.length + 1 - i with
  | zero => rfl
  | succ f =>
    unfold recsF
    rw [h]
theorem recs_step {w p : Sg} {i e : Nat} (h : recAt w i = some (p, e)) : recsF (w.length + 1 - i) w i = (p, e) :: recsF (w.length + 1 - e) w e := by
  have := rec_lt h
  obtain ⟨f, hf⟩ : ∃ f, w.length + 1 - i = f + 1 := ⟨w.length - i, by omega⟩
  have h2 : recsF (f + 1) w i = (p, e) :: recsF f w e := by
    show (match recAt w i with
      | none => []
      | some (p, e) => (p, e) :: recsF f w e) = _
    rw [h]
  rw [hf, h2, recsF_st (g := w.length + 1 - e) (by omega) (by omega) this.2.1]
/-- the lists told -/
def HoldL (m : Mp) (qs : List Addr) (rs : List (Sg × Nat)) : Prop := qs.length = rs.length ∧ ∀ (j : Nat) (q : Addr) (r : Sg × Nat), qs[j]? = some q → rs[j]? = some r → m q = some (.lst ((lnD r.1).map D.str))
theorem HoldL.fr {m m' : Mp} {qs : List Addr} {rs : List (Sg × Nat)} (h : HoldL m qs rs) (f : Fr [] m m') : HoldL m' qs rs := ⟨h.1, fun j q r a b => f.at ni_nil (h.2 j q r a b)⟩
theorem HoldL.put {m : Mp} {qs : List Addr} {rs : List (Sg × Nat)} {p : Addr} {o : O} (h : HoldL m qs rs) (hp : p ∉ qs) : HoldL (mset m p o) qs rs :=
  ⟨h.1, fun j q r a b => (mset_ne fun e => hp (by rw [← e]; exact List.mem_of_getElem? a)).trans (h.2 j q r a b)⟩
theorem HoldL.there {m : Mp} {qs : List Addr} {rs : List (Sg × Nat)} {q : Addr} (h : HoldL m qs rs) (hq : q ∈ qs) : m q ≠ none := by
  obtain ⟨j, hj⟩ := List.mem_iff_getElem?.mp hq
  have h1 := (List.getElem?_eq_some_iff.mp hj).1
  have h2 := h.2 j q (rs[j]'(h.1 ▸ h1)) hj (List.getElem?_eq_getElem _)
  rw [h2]
  exact fun z => nomatch z
theorem HoldL.snoc {m : Mp} {qs : List Addr} {rs : List (Sg × Nat)} {q : Addr} {r : Sg × Nat} (h : HoldL m qs rs) (hq : m q = some (.lst ((lnD r.1).map D.str))) : HoldL m (qs ++ [q]) (rs ++ [r]) := by
  refine ⟨by rw [List.length_append, List.length_append, h.1]; rfl, fun j q' r' a b => ?_⟩
  by_cases g : j < qs.length
  · rw [List.getElem?_append_left g] at a
    rw [List.getElem?_append_left (h.1 ▸ g)] at b
    exact h.2 j q' r' a b
  · have g2 : j = qs.length := by
      have := (List.getElem?_eq_some_iff.mp a).1
      rw [List.length_append, List.length_singleton] at this
      omega
    subst g2
    rw [List.getElem?_concat_length] at a
    rw [h.1, List.getElem?_concat_length] at b
    cases a
    cases b
    exact hq
/-- what is told of a text -/
structure Told (m m' : Mp) (rs : List (Sg × Nat)) (p1 p2 : Addr) (qs : List Addr) : Prop where
  h1 : m' p1 = some (.lst (qs.map D.ref))
  h2 : m' p2 = some (.lst (rs.map fun r => D.int (r.2 : Int)))
  hq : HoldL m' qs rs
  nd : (p1 :: p2 :: qs).Nodup
  nw : ∀ q ∈ p1 :: p2 :: qs, m q = none
  fr : Fr [] m m'
theorem Told.fr' {m m' m2 : Mp} {rs : List (Sg × Nat)} {p1 p2 : Addr} {qs : List Addr} (h : Told m m' rs p1 p2 qs) (f : Fr [] m' m2) : Told m m2 rs p1 p2 qs :=
  ⟨f.at ni_nil h.h1, f.at ni_nil h.h2, h.hq.fr f, h.nd, h.nw, by have := h.fr; walk_at "fr"⟩
theorem Told.nil {m : Mp} {p1 p2 : Addr} {m1 m2 : Mp} (a : m p1 = none) (b : m1 p2 = none) (e1 : m1 = mset m p1 (.lst [])) (e2 : m2 = mset m1 p2 (.lst [])) : Told m m2 [] p1 p2 [] := by
  subst e1 e2
  have ne : p1 ≠ p2 := fun e => by rw [e, mset_same] at b; cases b
  refine ⟨(mset_ne ne).trans mset_same, mset_same, ⟨rfl, fun j q r a => nomatch a⟩, by simp [ne], fun q hq => ?_, by walk_at "fr"⟩
  rcases List.mem_cons.mp hq with rfl | hq
  · exact a
  · rcases List.mem_cons.mp hq with rfl | hq
    · rw [mset_ne ne.symm] at b
      exact b
    · cases hq
theorem Told.step {m m' : Mp} {rs : List (Sg × Nat)} {p1 p2 q : Addr} {qs : List Addr} {r : Sg × Nat} (h : Told m m' rs p1 p2 qs) (hq : m' q = some (.lst ((lnD r.1).map D.str))) (hn : m q = none) (hnq : q ∉ p1 :: p2 :: qs) :
    Told m (mset (mset m' p1 (.lst (qs.map D.ref ++ [.ref q]))) p2 (.lst ((rs.map fun r => D.int (r.2 : Int)) ++ [.int (r.2 : Int)]))) (rs ++ [r]) p1 p2 (qs ++ [q]) := by
  have nd := h.nd
  simp only [List.nodup_cons, List.mem_cons, not_or] at nd hnq
  obtain ⟨⟨n12, n1⟩, n2, n3⟩ := nd
  obtain ⟨q1, q2, q3⟩ := hnq
  have hm1 := h.nw p1 List.mem_cons_self
  have hm2 := h.nw p2 (List.mem_cons_of_mem _ List.mem_cons_self)
  refine ⟨?_, ?_, ?_, ?_, fun z hz => ?_, ?_⟩
  · rw [mset_ne n12, mset_same, List.map_append]; rfl
  · rw [mset_same, List.map_append]; rfl
  · refine ((h.hq.put n1).put n2).snoc ?_
    rw [mset_ne q2, mset_ne q1]
    exact hq
  · rw [List.nodup_cons, List.nodup_cons]
    refine ⟨?_, ?_, ?_⟩
    · simp only [List.mem_cons, List.mem_append, List.mem_singleton, not_or]
      exact ⟨n12, n1, fun e => q1 e.symm, List.not_mem_nil⟩
    · simp only [List.mem_append, List.mem_singleton, not_or]
      exact ⟨n2, fun e => q2 e.symm⟩
    · rw [List.nodup_append]
      refine ⟨n3, by simp, fun a ha b hb e => ?_⟩
      rw [List.mem_singleton.mp hb] at e
      exact q3 (by rw [← e]; exact ha)
  · rcases List.mem_cons.mp hz with rfl | hz
    · exact hm1
    · rcases List.mem_cons.mp hz with rfl | hz
      · exact hm2
      · rcases List.mem_append.mp hz with hz | hz
        · exact h.nw z (List.mem_cons_of_mem _ (List.mem_cons_of_mem _ hz))
        · rw [List.mem_singleton.mp hz]; exact hn
  · have hf := h.fr
    walk_at "fr"
def sp_records : FSpec where
  al := Sg
  lev := fun _ => 6
  pre := fun (w : Sg) ds m => ds = [dS w] ∧ w.length ≤ 90000
  post := fun (w : Sg) m d m' => ∃ p1 p2 qs, d = .tup [.ref p1, .ref p2] ∧ Told m m' (recs w) p1 p2 qs
  exc := fun _ _ _ _ => False
theorem c_records {T : Tb} {L : Nat} {m : Mp} {k : K3} {x : X3} {w : Sg} (hT : T i_records sp_records) (hL : 6 < L) (h0 : w.length ≤ 90000)
    (hk : ∀ p1 p2 qs m', Told m m' (recs w) p1 p2 qs → k (.tup [.ref p1, .ref p2]) m') : callS T L i_records [dS w] m k x := by
  refine x_call hT w hL ⟨rfl, h0⟩ ?_ (fun _ _ h => h.elim)
  rintro d m' ⟨p1, p2, qs, rfl, h⟩
  exact hk p1 p2 qs m' h
theorem recs_many {w : Sg} : ∀ {f i : Nat}, (recsF f w i).length ≤ f
  | 0, _ => Nat.le_refl _
  | f + 1, i => by
    unfold recsF
    split
    · exact Nat.zero_le _
    · exact Nat.succ_le_succ recs_many
theorem b_records (T : Tb) (hR : T i_record_at sp_recat) : BodyOk (t_records T) N_records sp_records 1 := by
  intro L (w : Sg) ds m k x hl hk hx hp hq he
  dsimp only [sp_records] at hl hp hq he
  obtain ⟨rfl, hw⟩ := hp
  unfold t_records
  walk_at "x"
  rename_i p1 hp1 p2 hp2
  refine x_whl (fun n s m5 => ∃ i qs done c4 c5, n = w.length + 1 - i ∧ i ≤ w.length ∧ done ++ recsF n w i = recs w ∧ Told m m5 done p1 p2 qs ∧ s = [some (dS w), some (.ref p1), some (.ref p2), some (.int (i : Int)), c4, c5]) (w.length + 1)
    ⟨0, [], [], _, _, rfl, Nat.zero_le _, rfl, Told.nil hp1 hp2 rfl rfl, rfl⟩ ?_
  rintro n s m5 ⟨i, qs, done, c4, c5, rfl, hi, hd, hT, rfl⟩
  walk_at "x"
  refine c_recat hR (by omega) (by omega) hi (fun m6 hn f6 => ?_) (fun p e q m6 hs hq1 hq2 f6 => ?_)
  · rw [recs_end hn, List.append_nil] at hd
    subst hd
    walk_at "x"
    exact hq _ _ ⟨p1, p2, qs, rfl, hT.fr' f6⟩
  · have hlt := rec_lt hs
    have hT6 := hT.fr' f6
    have hqn : q ∉ p1 :: p2 :: qs := fun z => by
      rcases List.mem_cons.mp z with rfl | z
      · rw [hT.h1] at hq1; cases hq1
      · rcases List.mem_cons.mp z with rfl | z
        · rw [hT.h2] at hq1; cases hq1
        · exact hT.hq.there z hq1
    have hqm : m q = none := (Fr.gone hT.fr hq1).resolve_left ni_nil
    have hmany : done.length ≤ w.length + 1 := by
      have := congrArg List.length hd
      rw [List.length_append] at this
      have := recs_many (f := w.length + 1) (w := w) (i := 0)
      unfold recs at *
      omega
    have hst := hT6.step (r := (p, e)) hq2 hqm hqn
    have n12 : p1 ≠ p2 := fun z => by
      have := hT.nd
      rw [z] at this
      simp at this
    have t1 := hT6.h1
    have t2 := hT6.h2
    walk_at "x"
    refine xf_app hT6.h1 (by rw [List.length_map, hT.hq.1]; exact Nat.lt_of_le_of_lt hmany (Nat.lt_of_le_of_lt (show w.length + 1 ≤ 90001 by omega) (by decide))) ?_
    walk_at "x"
    refine ⟨w.length + 1 - e, by omega, e, qs ++ [q], done ++ [(p, e)], _, _, rfl, hlt.2.1, ?_, hst, rfl⟩
    rw [recs_step hs] at hd
    rw [← hd, List.append_assoc]
    rfl

/-! k91: records read by the law -/
theorem num_head {c : Nat} {w : Sg} {i : Nat} (h : numH (headOf c (w.drop i)) = none) : numAt c w i = none := by
  unfold numAt
  rw [h]
  exact ite_self _
theorem num_mem {c : Nat} {w : Sg} {i : Nat} (h : c ∉ w.drop i) : numAt c w i = none := if_neg h
theorem num_is {c : Nat} {w : Sg} {i v : Nat} (h : c ∈ w.drop i) (e : numH (headOf c (w.drop i)) = some v) : numAt c w i = some (v, i + (headOf c (w.drop i)).length + 1) := by
  unfold numAt
  rw [if_pos h, e]
  rfl
theorem rec_no {w : Sg} {i : Nat} (h : numAt 58 w i = none) : recAt w i = none := by
  unfold recAt
  rw [h]
theorem not_pay : ¬ isPay [] := fun h => nomatch h.1
section
variable {w : Sg} {i v : Nat}
/-- behind the head -/
def fst (w : Sg) (i : Nat) : Nat := i + (headOf 58 (w.drop i)).length + 1
def pay (w : Sg) (i v : Nat) : Sg := (w.drop (fst w i)).take v
theorem pay_nil (hi : i ≤ w.length) (h : 58 ∉ w.drop i) : pay w i v = [] := by
  unfold pay fst
  rw [head_free h, List.length_drop, List.drop_of_length_le (by omega), List.take_nil]
theorem rec_no1 (hi : i ≤ w.length) (e : numH (headOf 58 (w.drop i)) = some v) (h : (pay w i v).length < v ∨ ¬ isPay (pay w i v)) : recAt w i = none := by
  by_cases hm : 58 ∈ w.drop i
  · unfold recAt
    rw [num_is hm e]
    exact if_pos h
  · exact rec_no (num_mem hm)
theorem fst_is : i + (headOf 58 (w.drop i)).length + 1 = fst w i := rfl
theorem pay_is : (w.drop (fst w i)).take v = pay w i v := rfl
theorem rec_go (hi : i ≤ w.length) (e : numH (headOf 58 (w.drop i)) = some v) (h1 : ¬ (pay w i v).length < v) (h2 : isPay (pay w i v)) : fst w i + v ≤ w.length ∧ recAt w i = match numAt 10 w (fst w i + v) with
    | none => none
    | some (c, e) => if (c : Int) = chk (pay w i v) then some (pay w i v, e) else none := by
  have hm : 58 ∈ w.drop i := Decidable.byContradiction fun z => not_pay (pay_nil (v := v) hi z ▸ h2)
  refine ⟨?_, ?_⟩
  · unfold pay at h1 h2
    have : ((w.drop (fst w i)).take v).length ≠ 0 := fun z => by
      rw [List.eq_nil_of_length_eq_zero z] at h2
      exact not_pay h2
    rw [List.length_take, List.length_drop] at h1 this
    omega
  · unfold recAt
    rw [num_is hm e]
    exact if_neg (by rintro (z | z)
                     · exact h1 z
                     · exact z h2)
end
def sp_lread : FSpec where
  al := Sg
  lev := fun _ => 6
  pre := fun (w : Sg) ds m => ds = [dS w] ∧ w.length ≤ 90000
  post := fun (w : Sg) m d m' => ∃ p1 p2 qs, d = .tup [.ref p1, .ref p2] ∧ Told m m' (recs w) p1 p2 qs
  exc := fun _ _ _ _ => False
theorem c_lread {T : Tb} {L : Nat} {m : Mp} {k : K3} {x : X3} {w : Sg} (hT : T i_law_read sp_lread) (hL : 6 < L) (h0 : w.length ≤ 90000)
    (hk : ∀ p1 p2 qs m', Told m m' (recs w) p1 p2 qs → k (.tup [.ref p1, .ref p2]) m') : callS T L i_law_read [dS w] m k x := by
  refine x_call hT w hL ⟨rfl, h0⟩ ?_ (fun _ _ h => h.elim)
  rintro d m' ⟨p1, p2, qs, rfl, h⟩
  exact hk p1 p2 qs m' h
theorem b_lread (T : Tb) (hN : T i_law_number sp_lnum) (hG : T i_law_good sp_lgood) (hC : T i_law_check sp_lcheck) : BodyOk (t_law_read T) N_law_read sp_lread 1 := by
  intro L (w : Sg) ds m k x hl hk hx hp hq he
  dsimp only [sp_lread] at hl hp hq he
  obtain ⟨rfl, hw⟩ := hp
  unfold t_law_read
  walk_at "x"
  rename_i p1 hp1 p2 hp2
  refine x_whl (fun n s m5 => ∃ i qs done c4 c5 c6 c7 c8, n = w.length + 1 - i ∧ i ≤ w.length ∧ done ++ recsF n w i = recs w ∧ Told m m5 done p1 p2 qs ∧ s = [some (dS w), some (.ref p1), some (.ref p2), some (.int (i : Int)), c4, c5, c6, c7, c8]) (w.length + 1)
    ⟨0, [], [], _, _, _, _, _, rfl, Nat.zero_le _, rfl, Told.nil hp1 hp2 rfl rfl, rfl⟩ ?_
  rintro n s m5 ⟨i, qs, done, c4, c5, c6, c7, c8, rfl, hi, hd, hT, rfl⟩
  have stop : ∀ m', recAt w i = none → Fr [] m5 m' → k (.tup [.ref p1, .ref p2]) m' := fun m' hn f6 => by
    rw [recs_end hn, List.append_nil] at hd
    subst hd
    exact hq _ _ ⟨p1, p2, qs, rfl, hT.fr' f6⟩
  walk_at "x"
  refine xf_slS' (by show w.length ≤ _; omega) ?_
  rw [cutW0]
  walk_at "x"
  refine xf_split (c := 58) (by show (w.drop i).length ≤ _; rw [List.length_drop]; omega) (fun z hz => ?_)
  rw [spl_D]
  obtain ⟨ps, hs1, hs2⟩ := spl_is (c := 58) (w := w.drop i)
  rw [hs1]
  walk_at "x"
  refine xf_ixL (l := wD (headOf 58 (w.drop i) :: ps)) (d := dS (headOf 58 (w.drop i))) (RL.of mset_same) (by show atI _ ((0 : Nat) : Int) = _; rw [atI_of_nat (by simp)]; rfl) ?_
  have hhl := head_len (k := 58) (r := w.drop i)
  rw [List.length_drop] at hhl
  walk_at "x"
  refine c_lnum hN (by omega) (by omega) (fun m6 f6 => ?_)
  have hf6 : Fr [] m5 m6 := by walk_at "fr"
  walk_at "x"
  refine fx_lenW (by omega) ?_
  walk_at "x"
  cases e1 : numH (headOf 58 (w.drop i)) with
  | none =>
    have hno := rec_no (num_head e1)
    rw [show numI none = -1 from rfl]
    walk_at "x"
    refine xf_slS' (by show w.length ≤ _; omega) ?_
    rw [show (i : Int) + ((headOf 58 (w.drop i)).length : Int) + 1 = ((fst w i : Nat) : Int) by unfold fst; omega, show (fst w i : Int) + (if (-1 : Int) > 0 then -1 else 0) = ((fst w i : Nat) : Int) by rw [if_neg (by decide)]; omega, cutW]
    walk_at "x"
    refine xf_slS' (by show w.length ≤ _; omega) ?_
    rw [show (fst w i : Int) + (if (-1 : Int) > 0 then -1 else 0) = ((fst w i : Nat) : Int) by rw [if_neg (by decide)]; omega, cutW0]
    walk_at "x"
    rw [show Str.ofString "\n" = ⟨#[10]⟩ from rfl]
    refine xf_split (c := 10) (by show (w.drop _).length ≤ _; rw [List.length_drop]; omega) (fun z2 hz2 => ?_)
    walk_at "x"
    exact stop _ hno (by walk_at "fr")
  | some v =>
  rw [show numI (some v) = (v : Int) from rfl]
  walk_at "x"
  have hmax : (if (v : Int) > 0 then (v : Int) else 0) = (v : Int) := by split <;> omega
  refine xf_slS' (by show w.length ≤ _; omega) ?_
  rw [show (i : Int) + ((headOf 58 (w.drop i)).length : Int) + 1 = ((fst w i : Nat) : Int) by unfold fst; omega, hmax, show (fst w i : Int) + (v : Int) = ((fst w i + v : Nat) : Int) by omega, cutW, show fst w i + v - fst w i = v by omega, show (w.drop (fst w i)).take v = pay w i v from rfl]
  walk_at "x"
  refine xf_slS' (by show w.length ≤ _; omega) ?_
  rw [hmax, show (fst w i : Int) + (v : Int) = ((fst w i + v : Nat) : Int) by omega, cutW0]
  walk_at "x"
  rw [show Str.ofString "\n" = ⟨#[10]⟩ from rfl]
  refine xf_split (c := 10) (by show (w.drop _).length ≤ _; rw [List.length_drop]; omega) (fun z2 hz2 => ?_)
  rw [spl_D]
  obtain ⟨ps2, ht1, ht2⟩ := spl_is (c := 10) (w := w.drop (fst w i + v))
  rw [ht1]
  have hpl : (pay w i v).length ≤ w.length := by unfold pay; rw [List.length_take, List.length_drop]; omega
  walk_at "x"
  refine fx_lenW (by omega) ?_
  walk_at "x"
  refine x_iD (fun h => ?_) (fun g1 => ?_)
  · walk_at "x"
    exact stop _ (rec_no1 hi e1 (.inl (by omega))) (by walk_at "fr")
  walk_at "x"
  refine c_lgood hG (by omega) (by omega) (fun m7 f7 => ?_)
  walk_at "x"
  by_cases g2 : isPay (pay w i v)
  rotate_left
  · rw [decF g2]
    walk_at "x"
    exact stop _ (rec_no1 hi e1 (.inr g2)) (by walk_at "fr")
  rw [decT g2]
  obtain ⟨hfv, hrec⟩ := rec_go hi e1 (by omega) g2
  have hz7 : m7 z2 = some (.lst (wD (headOf 10 (w.drop (fst w i + v)) :: ps2))) := f7.at ni_nil mset_same
  have f57 : Fr [] m5 m7 := by walk_at "fr"
  have hhl2 := head_len (k := 10) (r := w.drop (fst w i + v))
  rw [List.length_drop] at hhl2
  walk_at "x"
  refine x_iD (fun h => ?_) (fun g3 => ?_)
  · walk_at "x"
    refine stop _ ?_ f57
    have : ps2 = [] := by
      cases ps2 with
      | nil => rfl
      | cons a l => simp only [List.length_cons, List.length_map] at h; omega
    rw [hrec, num_mem fun z => (ht2.mp z) this]
  have hm10 : 10 ∈ w.drop (fst w i + v) := ht2.mpr fun e => by rw [e] at g3; simp at g3
  have hl2 : (wD (headOf 10 (w.drop (fst w i + v)) :: ps2))[0]? = some (dS (headOf 10 (w.drop (fst w i + v)))) := rfl
  walk_at "x"
  refine xf_ixL (l := wD (headOf 10 (w.drop (fst w i + v)) :: ps2)) (d := dS (headOf 10 (w.drop (fst w i + v)))) (RL.of hz7) (by show atI _ ((0 : Nat) : Int) = _; rw [atI_of_nat (by simp)]; rfl) ?_
  refine c_lnum hN (by omega) (by omega) (fun m8 f8 => ?_)
  walk_at "x"
  refine c_lcheck hC (by omega) (by omega) (fun c hc => by have := g2.2 c hc; unfold paySg at this; omega) (fun m9 f9 => ?_)
  have f59 : Fr [] m5 m9 := by walk_at "fr"
  walk_at "x"
  have hck := chk_ok (w := pay w i v)
  cases e2 : numH (headOf 10 (w.drop (fst w i + v))) with
  | none =>
    rw [show numI none = -1 from rfl, decF (show ¬ (-1 : Int) = chk (pay w i v) by omega)]
    walk_at "x"
    exact stop _ (by rw [hrec, num_head e2]) f59
  | some c =>
  rw [show numI (some c) = (c : Int) from rfl]
  have hnum := num_is hm10 e2
  refine x_iN (fun h => ?_) (fun g4 => ?_)
  · walk_at "x"
    exact stop _ (by rw [hrec, hnum]; exact if_neg h) f59
  have hs : recAt w i = some (pay w i v, fst w i + v + (headOf 10 (w.drop (fst w i + v))).length + 1) := by rw [hrec, hnum]; exact if_pos g4
  have hlt := rec_lt hs
  have hT9 := hT.fr' f59
  have t1 := hT9.h1
  have t2 := hT9.h2
  walk_at "x"
  refine xf_slS' (by show (pay w i v).length ≤ _; omega) ?_
  rw [cut_but]
  walk_at "x"
  have hz9 : m9 z2 = some (.lst (wD (headOf 10 (w.drop (fst w i + v)) :: ps2))) := f9.at ni_nil (f8.at ni_nil hz7)
  refine xf_split (c := 10) (by show (pay w i v).dropLast.length ≤ _; rw [List.length_dropLast]; omega) (fun q hq1 => ?_)
  have hqf : Fr [] m9 (mset m9 q (.lst ((Txt.split (SX.S (pay w i v).dropLast) ⟨#[10]⟩).map D.str))) := by walk_at "fr"
  have hTq := hT9.fr' hqf
  have hqn : q ∉ p1 :: p2 :: qs := fun z => by
    rcases List.mem_cons.mp z with rfl | z
    · rw [t1] at hq1; cases hq1
    · rcases List.mem_cons.mp z with rfl | z
      · rw [t2] at hq1; cases hq1
      · exact hT9.hq.there z hq1
  have hqm : m q = none := (Fr.gone hT9.fr hq1).resolve_left ni_nil
  have hmany : done.length ≤ w.length + 1 := by
    have := congrArg List.length hd
    rw [List.length_append] at this
    have := recs_many (f := w.length + 1) (w := w) (i := 0)
    unfold recs at *
    omega
  have hst := hTq.step (r := (pay w i v, fst w i + v + (headOf 10 (w.drop (fst w i + v))).length + 1)) mset_same hqm hqn
  have n12 : p1 ≠ p2 := fun z => by
    have := hT.nd
    rw [z] at this
    simp at this
  have big : ∀ n : Nat, n ≤ w.length + 1 → n < 100000 := fun n hn => by omega
  have hqp1 : q ≠ p1 := fun e => hqn (by rw [e]; exact List.mem_cons_self)
  have hqz : q ≠ z2 := fun e => by rw [e, hz9] at hq1; cases hq1
  have hT6 := hT.fr' hf6
  have hz1 : z2 ≠ p1 := fun e => by rw [e, hT6.h1] at hz2; cases hz2
  have hz1' : z2 ≠ p2 := fun e => by rw [e, hT6.h2] at hz2; cases hz2
  have hqp2 : q ≠ p2 := fun e => hqn (by rw [e]; exact List.mem_cons_of_mem _ List.mem_cons_self)
  have hR1 : RL (mset (mset m9 q (.lst ((Txt.split (SX.S (pay w i v).dropLast) ⟨#[10]⟩).map D.str))) p1 (.lst (qs.map D.ref ++ [.ref q]))) z2 (wD (headOf 10 (w.drop (fst w i + v)) :: ps2)) := RL.of ((mset_ne hz1).trans ((mset_ne hqz.symm).trans hz9))
  walk_at "x"
  refine xf_app hTq.h1 (by rw [List.length_map, hT.hq.1]; exact big _ hmany) ?_
  walk_at "x"
  refine xf_ixL (l := wD (headOf 10 (w.drop (fst w i + v)) :: ps2)) (d := dS (headOf 10 (w.drop (fst w i + v)))) hR1 (by show atI _ ((0 : Nat) : Int) = _; rw [atI_of_nat (by simp)]; rfl) ?_
  walk_at "x"
  refine fx_lenW (by omega) ?_
  clear hR1 hz9 hz7 hz2 hz f6 f7 f8 f9 f57 f59 hqf
  generalize hE : fst w i + v + (headOf 10 (w.drop (fst w i + v))).length + 1 = E at hst hs hlt
  refine xf_addI ?_
  refine x_lit ?_
  refine xf_addI ?_
  rw [show (fst w i : Int) + (v : Int) + ((headOf 10 (w.drop (fst w i + v))).length : Int) + 1 = (E : Int) by omega]
  walk_at "x"
  refine ⟨w.length + 1 - E, by omega, E, qs ++ [q], done ++ [(pay w i v, E)], _, _, _, _, _, rfl, hlt.2.1, ?_, hst, rfl⟩
  rw [recs_step hs] at hd
  rw [← hd, List.append_assoc]
  rfl

/-! k91: records written -/
theorem num_S {n : Nat} : (Str.ofString (toString ((n : Nat) : Int))) = SX.S (TL.numL n) := by
  rw [← S_of (z := Str.ofString _)]
  exact congrArg SX.S (TL.tl_num n)
def payOf (ts : List Sg) : Sg := ts.flatMap fun t => t ++ [10]
def ofP (p : Sg) : Sg := TL.numL p.length ++ (58 :: p) ++ TL.numL (chk p).toNat ++ [10]
theorem ofP_len {p : Sg} (h : p.length < 100000) : (ofP p).length ≤ p.length + 30 := by
  have h1 := TL.numL_len (n := p.length) (k := 5) (by decide) (by omega)
  have hc := chk_ok (w := p)
  have h2 := TL.numL_len (n := (chk p).toNat) (k := 19) (by decide) (by omega)
  unfold ofP
  simp only [List.length_append, List.length_cons, List.length_nil]
  omega
theorem payOf_len {ts : List Sg} (h : ∀ t ∈ ts, t.length ≤ 70) : (payOf ts).length ≤ 71 * ts.length := by
  unfold payOf
  induction ts with
  | nil => exact Nat.le_refl _
  | cons t ts ih =>
    have h1 := h t List.mem_cons_self
    have h2 := ih fun z hz => h z (List.mem_cons_of_mem _ hz)
    simp only [List.flatMap_cons, List.length_append, List.length_cons, List.length_nil]
    omega
/-- a text of a list -/
def TxtG (t : Sg) : Prop := t.length ≤ 70 ∧ ∀ c ∈ t, paySg c ∧ c ≠ 10
theorem payOf_ok {ts : List Sg} (h : ∀ t ∈ ts, TxtG t) : ∀ c ∈ payOf ts, paySg c := fun c hc => by
  unfold payOf at hc
  obtain ⟨t, ht, hc⟩ := List.mem_flatMap.mp hc
  rcases List.mem_append.mp hc with hc | hc
  · exact ((h t ht).2 c hc).1
  · rw [List.mem_singleton.mp hc]; exact .inl rfl
theorem join0 : ∀ {l : List Sg}, TL.joinL [] l = l.flatten
  | [] => rfl
  | [a] => by simp [TL.joinL]
  | a :: b :: l => by
    show a ++ ([] ++ TL.joinL [] (b :: l)) = _
    rw [join0]
    rfl
theorem joinT {ts : List Sg} : Txt.join (Str.ofString "") ((ts.map fun t => t ++ [10]).map SX.S) = SX.S (payOf ts) := by
  rw [← S_of (z := Txt.join _ _), TL.join_eq]
  show SX.S (TL.tl _) = _
  rw [TL.tl_join, List.map_map]
  show SX.S (TL.joinL [] ((ts.map fun t => t ++ [10]).map fun z => z)) = _
  rw [List.map_id', join0]
  rfl
theorem len_sumT {ts : List Sg} : ((ts.map SX.S).map (·.length)).sum = (ts.map List.length).sum := by
  rw [List.map_map]
  exact congrArg List.sum (List.map_congr_left fun t _ => str_len)
theorem sumT {ts : List Sg} (h : ∀ t ∈ ts, TxtG t) : ((ts.map fun t => t ++ [10]).map List.length).sum ≤ 71 * ts.length := by
  induction ts with
  | nil => exact Nat.le_refl _
  | cons t ts ih =>
    have h1 := (h t List.mem_cons_self).1
    have h2 := ih fun z hz => h z (List.mem_cons_of_mem _ hz)
    simp only [List.map_cons, List.sum_cons, List.length_append, List.length_cons, List.length_nil] at h2 ⊢
    omega
theorem xf_joinT {ts : List Sg} {p : Addr} {m : Mp} {k : K3} (h1 : RL m p (wD (ts.map fun t => t ++ [10]))) (h : ∀ t ∈ ts, TxtG t) (hl : ts.length ≤ 1000) (hk : k (dS (payOf ts)) m) : fJoin (.str (Str.ofString "")) [.ref p] m k := by
  refine xf_join (ys := (ts.map fun t => t ++ [10]).map SX.S) (by rw [List.map_map]; exact h1) ?_ (by rw [joinT]; exact hk)
  rw [len_sumT]
  have := sumT h
  have e : (Str.ofString "").length = 0 := rfl
  rw [e, Nat.mul_zero]
  exact Nat.le_trans (Nat.add_le_add_right this 0) (by omega)
theorem fx_j {a acc : Sg} {r : Str → Prop} (h0 : acc.length + a.length ≤ 100000) (h : r (SX.S (acc ++ a))) : fJ (dS a) (SX.S acc) r := xf_j h0 (by rw [SX.S_cat]; exact h)
def sp_record : FSpec where
  al := Addr × List Sg
  lev := fun _ => 5
  pre := fun a ds m => ds = [.ref a.1] ∧ m a.1 = some (.lst (wD a.2)) ∧ (∀ t ∈ a.2, TxtG t) ∧ a.2.length ≤ 100
  post := fun a m d m' => d = dS (ofP (payOf a.2)) ∧ Fr [] m m'
  exc := fun _ _ _ _ => False
theorem c_record {T : Tb} {L : Nat} {m : Mp} {k : K3} {x : X3} {p : Addr} {ts : List Sg} (hT : T i_record sp_record) (hL : 5 < L) (h1 : m p = some (.lst (wD ts))) (h2 : ∀ t ∈ ts, TxtG t) (h3 : ts.length ≤ 100) (hk : ∀ m', Fr [] m m' → k (dS (ofP (payOf ts))) m') : callS T L i_record [.ref p] m k x := by
  refine x_call hT (p, ts) hL ⟨rfl, h1, h2, h3⟩ ?_ (fun _ _ h => h.elim)
  rintro d m' ⟨rfl, f⟩
  exact hk m' f
theorem wD_get {ws : List Sg} {j : Nat} {d : D} (h : (wD ws)[j]? = some d) : ∃ t, ws[j]? = some t ∧ d = dS t := by
  unfold wD at h
  rw [List.getElem?_map] at h
  cases e : ws[j]? with
  | none => rw [e] at h; cases h
  | some t => rw [e] at h; cases h; exact ⟨t, rfl, rfl⟩
theorem chk_nat {w : Sg} : ((chk w).toNat : Int) = chk w := Int.toNat_of_nonneg chk_ok.1
theorem log_small {n : Int} (h0 : 0 ≤ n) (h1 : n ≤ 2305843009213693951) : n.natAbs.log2 < 1920 := by
  have : n.natAbs.log2 ≤ n.natAbs := Nat.log2_le_self _
  by_cases h : n.natAbs = 0
  · rw [h]; decide
  · exact (Nat.log2_lt h).mpr (Nat.lt_of_le_of_lt (show n.natAbs ≤ 2 ^ 61 by omega) (Nat.pow_lt_pow_right (by decide) (by decide)))
theorem b_record (T : Tb) (hC : T i_check_of sp_check) : BodyOk (t_record T) N_record sp_record 1 := by
  intro L a ds m k x hl hk hx hp hq he
  dsimp only [sp_record] at hl hp hq he
  obtain ⟨p, ts⟩ := a
  obtain ⟨rfl, h1, h2, h3⟩ := hp
  dsimp only at *
  unfold t_record
  walk_at "x"
  rename_i q hq1
  have hqp : q ≠ p := fun e => by rw [e, h1] at hq1; cases hq1
  refine ⟨fun j m' => m' q = some (.lst (wD ((ts.take j).map fun t => t ++ [10]))) ∧ Fr [] m m' ∧ (m' p = some (.lst (wD ts))), ⟨mset_same, by walk_at "fr", (mset_ne hqp.symm).trans h1⟩, fun _ _ _ h => RL.of h.2.2, ?_, ?_⟩
  · rintro j d m' hd ⟨k1, k2, k3⟩
    obtain ⟨t, ht, rfl⟩ := wD_get hd
    have htl := (h2 t (List.mem_of_getElem? ht)).1
    walk_at "x"
    rw [show Str.ofString "\n" = SX.S [10] from rfl]
    refine fx_addW (by simp only [List.length_cons, List.length_nil]; omega) ?_
    refine ⟨_, k1, by rw [List.length_map, List.length_map, List.length_take]; exact Nat.lt_of_le_of_lt (Nat.min_le_right _ _) (Nat.lt_of_le_of_lt h3 (by decide)), ?_, by walk_at "fr", (mset_ne hqp.symm).trans k3⟩
    rw [take_snoc ht, List.map_append, wD_app]
    exact mset_same
  rintro m1 ⟨k1, k2, k3⟩
  rw [List.length_map, List.take_length] at k1
  walk_at "x"
  refine xf_joinT (RL.of k1) h2 (by omega) ?_
  have hpl := payOf_len fun t ht => (h2 t ht).1
  have hpo := payOf_ok h2
  have hck := chk_ok (w := payOf ts)
  walk_at "x"
  refine fx_lenW (by omega) ?_
  walk_at "x"
  refine c_check hC (by omega) (by omega) hpo (fun m2 f2 => ?_)
  walk_at "x"
  refine x_js ?_
  refine x_jc (x_fm ?_)
  walk_at "x"
  refine xf_fmI (log_small (by omega) (by omega)) ?_
  have hlen := ofP_len (p := payOf ts) (by omega)
  unfold ofP at hlen hq
  simp only [List.length_append, List.length_cons, List.length_nil] at hlen
  rw [num_S, show Str.empty = SX.S [] from rfl]
  refine fx_j (by simp only [List.length_nil]; omega) ?_
  refine x_jc ?_
  walk_at "x"
  rw [show Str.ofString ":" = SX.S [58] from rfl]
  refine fx_j (by simp only [List.length_nil, List.length_append, List.length_cons]; omega) ?_
  refine x_jc (x_fm ?_)
  walk_at "x"
  refine xf_fmS (by show (payOf ts).length ≤ _; omega) ?_
  refine fx_j (by simp only [List.length_nil, List.length_append, List.length_cons]; omega) ?_
  refine x_jc (x_fm ?_)
  walk_at "x"
  refine xf_fmI (log_small hck.1 hck.2) ?_
  rw [← chk_nat, num_S]
  refine fx_j (by simp only [List.length_nil, List.length_append, List.length_cons]; omega) ?_
  refine x_jc ?_
  walk_at "x"
  rw [show Str.ofString "\n" = SX.S [10] from rfl]
  refine fx_j (by simp only [List.length_nil, List.length_append, List.length_cons]; omega) ?_
  refine x_jn ?_
  refine hq _ _ ⟨?_, by walk_at "fr"⟩
  simp

/-! k91: the law's records, its spoilt texts -/
theorem pay128 {c : Nat} (h : paySg c) : c < 128 := by unfold paySg at h; omega
def sp_lrecord : FSpec where
  al := Addr × List Sg
  lev := fun _ => 2
  pre := fun a ds m => ds = [.ref a.1] ∧ m a.1 = some (.lst (wD a.2)) ∧ (∀ t ∈ a.2, TxtG t) ∧ a.2.length ≤ 100
  post := fun a m d m' => d = dS (ofP (payOf a.2)) ∧ Fr [] m m'
  exc := fun _ _ _ _ => False
theorem c_lrecord {T : Tb} {L : Nat} {m : Mp} {k : K3} {x : X3} {p : Addr} {ts : List Sg} (hT : T i_law_record sp_lrecord) (hL : 2 < L) (h1 : m p = some (.lst (wD ts))) (h2 : ∀ t ∈ ts, TxtG t) (h3 : ts.length ≤ 100) (hk : ∀ m', Fr [] m m' → k (dS (ofP (payOf ts))) m') : callS T L i_law_record [.ref p] m k x := by
  refine x_call hT (p, ts) hL ⟨rfl, h1, h2, h3⟩ ?_ (fun _ _ h => h.elim)
  rintro d m' ⟨rfl, f⟩
  exact hk m' f
theorem b_lrecord (T : Tb) (hC : T i_law_check sp_lcheck) : BodyOk (t_law_record T) N_law_record sp_lrecord 1 := by
  intro L a ds m k x hl hk hx hp hq he
  dsimp only [sp_lrecord] at hl hp hq he
  obtain ⟨p, ts⟩ := a
  obtain ⟨rfl, h1, h2, h3⟩ := hp
  dsimp only at *
  unfold t_law_record
  walk_at "x"
  rename_i q hq1
  have hqp : q ≠ p := fun e => by rw [e, h1] at hq1; cases hq1
  refine ⟨fun j m' => m' q = some (.lst (wD ((ts.take j).map fun t => t ++ [10]))) ∧ Fr [] m m' ∧ (m' p = some (.lst (wD ts))), ⟨mset_same, by walk_at "fr", (mset_ne hqp.symm).trans h1⟩, fun _ _ _ h => RL.of h.2.2, ?_, ?_⟩
  · rintro j d m' hd ⟨k1, k2, k3⟩
    obtain ⟨t, ht, rfl⟩ := wD_get hd
    have htl := (h2 t (List.mem_of_getElem? ht)).1
    walk_at "x"
    rw [show Str.ofString "\n" = SX.S [10] from rfl]
    refine fx_addW (by simp only [List.length_cons, List.length_nil]; omega) ?_
    refine ⟨_, k1, by rw [List.length_map, List.length_map, List.length_take]; exact Nat.lt_of_le_of_lt (Nat.min_le_right _ _) (Nat.lt_of_le_of_lt h3 (by decide)), ?_, by walk_at "fr", (mset_ne hqp.symm).trans k3⟩
    rw [take_snoc ht, List.map_append, wD_app]
    exact mset_same
  rintro m1 ⟨k1, k2, k3⟩
  rw [List.length_map, List.take_length] at k1
  walk_at "x"
  refine xf_joinT (RL.of k1) h2 (by omega) ?_
  have hpl := payOf_len fun t ht => (h2 t ht).1
  have hpo := payOf_ok h2
  have hck := chk_ok (w := payOf ts)
  have hlen := ofP_len (p := payOf ts) (by omega)
  unfold ofP at hlen hq
  simp only [List.length_append, List.length_cons, List.length_nil] at hlen
  walk_at "x"
  refine fx_lenW (by omega) ?_
  walk_at "x"
  refine xf_str (log_small (by omega) (by omega)) ?_
  rw [num_S, show Str.ofString ":" = SX.S [58] from rfl]
  walk_at "x"
  refine fx_addW (by simp only [List.length_nil, List.length_append, List.length_cons]; omega) ?_
  walk_at "x"
  refine fx_addW (by simp only [List.length_nil, List.length_append, List.length_cons]; omega) ?_
  walk_at "x"
  refine c_lcheck hC (by omega) (by omega) (fun c hc => pay128 (hpo c hc)) (fun m2 f2 => ?_)
  walk_at "x"
  refine xf_str (log_small hck.1 hck.2) ?_
  rw [← chk_nat, num_S]
  refine fx_addW (by simp only [List.length_nil, List.length_append, List.length_cons]; omega) ?_
  walk_at "x"
  rw [show Str.ofString "\n" = SX.S [10] from rfl]
  refine fx_addW (by simp only [List.length_nil, List.length_append, List.length_cons]; omega) ?_
  refine hq _ _ ⟨?_, by walk_at "fr"⟩
  simp
def sp_lof : FSpec where
  al := Sg
  lev := fun _ => 2
  pre := fun (p : Sg) ds m => ds = [dS p] ∧ p.length ≤ 10 ∧ ∀ c ∈ p, c < 128
  post := fun (p : Sg) m d m' => d = dS (ofP p) ∧ Fr [] m m'
  exc := fun _ _ _ _ => False
theorem c_lof {T : Tb} {L : Nat} {m : Mp} {k : K3} {x : X3} {z : Str} (p : Sg) (hT : T i_law_of sp_lof) (hz : z = SX.S p) (hL : 2 < L) (h1 : p.length ≤ 10) (h2 : ∀ c ∈ p, c < 128) (hk : ∀ m', Fr [] m m' → k (dS (ofP p)) m') : callS T L i_law_of [.str z] m k x := by
  subst hz
  refine x_call hT p hL ⟨rfl, h1, h2⟩ ?_ (fun _ _ h => h.elim)
  rintro d m' ⟨rfl, f⟩
  exact hk m' f
theorem b_lof (T : Tb) (hC : T i_law_check sp_lcheck) : BodyOk (t_law_of T) N_law_of sp_lof 1 := by
  intro L (p : Sg) ds m k x hl hk hx hp hq he
  dsimp only [sp_lof] at hl hp hq he
  obtain ⟨rfl, h1, h2⟩ := hp
  have hck := chk_ok (w := p)
  have hlen := ofP_len (p := p) (by omega)
  unfold ofP at hlen hq
  simp only [List.length_append, List.length_cons, List.length_nil] at hlen
  unfold t_law_of
  walk_at "x"
  refine fx_lenW (by omega) ?_
  walk_at "x"
  refine xf_str (log_small (by omega) (by omega)) ?_
  rw [num_S, show Str.ofString ":" = SX.S [58] from rfl]
  walk_at "x"
  refine fx_addW (by simp only [List.length_nil, List.length_append, List.length_cons]; omega) ?_
  walk_at "x"
  refine fx_addW (by simp only [List.length_nil, List.length_append, List.length_cons]; omega) ?_
  walk_at "x"
  refine c_lcheck hC (by omega) (by omega) h2 (fun m2 f2 => ?_)
  walk_at "x"
  refine xf_str (log_small hck.1 hck.2) ?_
  rw [← chk_nat, num_S]
  refine fx_addW (by simp only [List.length_nil, List.length_append, List.length_cons]; omega) ?_
  walk_at "x"
  rw [show Str.ofString "\n" = SX.S [10] from rfl]
  refine fx_addW (by simp only [List.length_nil, List.length_append, List.length_cons]; omega) ?_
  refine hq _ _ ⟨?_, f2⟩
  simp
/-! texts that are asked -/
def okC (c : Nat) : Prop := paySg c ∨ c = 9
def Asked (w : Sg) : Prop := ∀ c ∈ w, okC c
theorem Asked.app {a b : Sg} (h1 : Asked a) (h2 : Asked b) : Asked (a ++ b) := fun c hc => (List.mem_append.mp hc).elim (h1 c) (h2 c)
theorem Asked.take {a : Sg} {n : Nat} (h : Asked a) : Asked (a.take n) := fun c hc => h c (List.mem_of_mem_take hc)
theorem Asked.drop {a : Sg} {n : Nat} (h : Asked a) : Asked (a.drop n) := fun c hc => h c (List.mem_of_mem_drop hc)
theorem asked_num {n : Nat} : Asked (TL.numL n) := fun c hc => by
  have := TL.numL_digits n c hc
  unfold okC paySg
  omega
theorem asked_pay {w : Sg} (h : ∀ c ∈ w, paySg c) : Asked w := fun c hc => .inl (h c hc)
theorem asked1 {c : Nat} (h : okC c) : Asked [c] := fun e he => by rw [List.mem_singleton.mp he]; exact h
theorem asked_of {p : Sg} (h : Asked p) : Asked (ofP p) := by
  unfold ofP
  exact ((asked_num.app (fun c hc => by
    rcases List.mem_cons.mp hc with rfl | hc
    · unfold okC paySg; omega
    · exact h c hc)).app asked_num).app (asked1 (by unfold okC paySg; omega))
abbrev marks : Sg := (Str.ofString "0123456789:\n").cps.toList
theorem marks_at : ∀ k, k < 12 → ∃ g, marks[k]? = some g ∧ okC g := fun k hk => by
  have e : marks = [48, 49, 50, 51, 52, 53, 54, 55, 56, 57, 58, 10] := by decide +kernel
  have h : k < marks.length := by rw [e]; exact hk
  refine ⟨marks[k], List.getElem?_eq_getElem h, ?_⟩
  have hm : marks[k] ∈ marks := List.getElem_mem h
  generalize marks[k] = g at hm
  rw [e] at hm
  simp only [List.mem_cons, List.not_mem_nil, or_false] at hm
  unfold okC paySg
  omega
def sp_spoilt : FSpec where
  al := Sg × Int × Int
  lev := fun _ => 1
  pre := fun a ds m => ds = [dS a.1, .int a.2.1, .int a.2.2] ∧ a.1.length ≤ 80000 ∧ Asked a.1
  post := fun a m d m' => m' = m ∧ ∃ w, d = dS w ∧ w.length ≤ a.1.length + 1 ∧ Asked w
  exc := fun _ _ _ _ => False
theorem c_spoilt {T : Tb} {L : Nat} {m : Mp} {k : K3} {x : X3} {w : Sg} {i j : Int} (hT : T i_law_spoilt sp_spoilt) (hL : 1 < L) (h1 : w.length ≤ 80000) (h2 : Asked w) (hk : ∀ v, v.length ≤ w.length + 1 → Asked v → k (dS v) m) : callS T L i_law_spoilt [dS w, .int i, .int j] m k x := by
  refine x_call hT (w, i, j) hL ⟨rfl, h1, h2⟩ ?_ (fun _ _ h => h.elim)
  rintro d m' ⟨rfl, v, rfl, a, b⟩
  exact hk v a b
theorem b_spoilt (T : Tb) (hM : T i_law_mixed sp_mixed) (hS : T i_law_sign sp_sign) : BodyOk (t_law_spoilt T) N_law_spoilt sp_spoilt 3 := by
  intro L a ds m k x hl hk hx hp hq he
  dsimp only [sp_spoilt] at hl hp hq he
  obtain ⟨w, c, e⟩ := a
  obtain ⟨rfl, h1, h2⟩ := hp
  dsimp only at *
  unfold t_law_spoilt
  walk_at "x"
  refine fx_lenW (by omega) ?_
  walk_at "x"
  have a1 := Int.emod_nonneg (c / 4) (show ((w.length : Int) + 1) ≠ 0 by omega)
  obtain ⟨i, hi⟩ := Int.eq_ofNat_of_zero_le a1
  rw [hi]
  have him : i ≤ w.length := by
    have := Int.emod_lt_of_pos (c / 4) (show (0:Int) < (w.length : Int) + 1 by omega)
    omega
  refine c_mixed (n := 3) hM (by omega) rfl (by decide) (fun r => ?_)
  walk_at "x"
  have hr12 : r % 12 < 12 := Nat.mod_lt _ (by decide)
  obtain ⟨g, hg1, hg2⟩ := marks_at (r % 12) hr12
  refine fx_ixW (w := marks) (by decide +kernel) (c := g) (by
    rw [show ((r : Int) % 12) = ((r % 12 : Nat) : Int) by omega, atI_of_nat (by have : marks.length = 12 := by decide +kernel
                                                                                omega)]
    exact hg1) ?_
  walk_at "x"
  refine x_seqJ (fun s m3 => m3 = m ∧ ∃ g, s = [some (dS w), some (.int c), some (.int e), some (.int (i : Nat)), some (dS [g])] ∧ okC g) ?_ ?_
  rotate_left
  · intro n hn
    walk_at "x"
    refine c_mixed (n := 4) hM (by omega) rfl (by decide) (fun r => ?_)
    walk_at "x"
    refine x_iD (fun h => ?_) (fun h => ?_)
    · walk_at "x"
      refine c_mixed (n := 6) hM (by omega) rfl (by decide) (fun r => ?_)
      walk_at "x"
      refine c_sign hS (by omega) ?_
      walk_at "x"
      exact hn _ _ ⟨rfl, _, rfl, .inl sgn_pay.1⟩
    · walk_at "x"
      exact hn _ _ ⟨rfl, g, rfl, hg2⟩
  rintro s m3 ⟨rfl, g, rfl, hg⟩
  have hA := asked1 hg
  walk_at "x"
  have ht : (w.take i).length ≤ w.length := by rw [List.length_take]; omega
  have hd : (w.drop i).length ≤ w.length := by rw [List.length_drop]; omega
  have hd1 : (w.drop (i + 1)).length ≤ w.length := by rw [List.length_drop]; omega
  have htd : (w.take i).length + (w.drop i).length = w.length := by rw [List.length_take, List.length_drop]; omega
  have htd1 : (w.take i).length + (w.drop (i + 1)).length ≤ w.length := by rw [List.length_take, List.length_drop]; omega
  refine x_iD (fun h => ?_) (fun h => ?_)
  · walk_at "x"
    refine xf_slS' (by show w.length ≤ _; omega) ?_
    rw [cutWn]
    exact hq _ _ ⟨rfl, _, rfl, by omega, h2.take⟩
  walk_at "x"
  refine x_iD (fun h => ?_) (fun h => ?_)
  · walk_at "x"
    refine xf_slS' (by show w.length ≤ _; omega) ?_
    rw [cutWn]
    walk_at "x"
    refine fx_addW (by simp only [List.length_cons, List.length_nil]; omega) ?_
    walk_at "x"
    refine xf_slS' (by show w.length ≤ _; omega) ?_
    rw [cutW0]
    refine fx_addW (by simp only [List.length_append, List.length_cons, List.length_nil]; omega) ?_
    exact hq _ _ ⟨rfl, _, rfl, by simp only [List.length_append, List.length_cons, List.length_nil]; omega, (h2.take.app hA).app h2.drop⟩
  walk_at "x"
  refine x_iD (fun h => ?_) (fun h => ?_)
  · walk_at "x"
    refine xf_slS' (by show w.length ≤ _; omega) ?_
    rw [cutWn]
    walk_at "x"
    refine fx_addW (by simp only [List.length_cons, List.length_nil]; omega) ?_
    walk_at "x"
    refine xf_slS' (by show w.length ≤ _; omega) ?_
    rw [show (i : Int) + 1 = ((i + 1 : Nat) : Int) by omega, cutW0]
    refine fx_addW (by simp only [List.length_append, List.length_cons, List.length_nil]; omega) ?_
    exact hq _ _ ⟨rfl, _, rfl, by simp only [List.length_append, List.length_cons, List.length_nil]; omega, (h2.take.app hA).app h2.drop⟩
  walk_at "x"
  refine xf_slS' (by show w.length ≤ _; omega) ?_
  rw [cutWn]
  walk_at "x"
  refine xf_slS' (by show w.length ≤ _; omega) ?_
  rw [show (i : Int) + 1 = ((i + 1 : Nat) : Int) by omega, cutW0]
  refine fx_addW (by omega) ?_
  exact hq _ _ ⟨rfl, _, rfl, by simp only [List.length_append]; omega, h2.take.app h2.drop⟩
def sp_odd : FSpec where
  al := Sg × Int
  lev := fun _ => 3
  pre := fun a ds m => ds = [dS a.1, .int a.2] ∧ a.1.length ≤ 80000 ∧ Asked a.1
  post := fun a m d m' => Fr [] m m' ∧ ∃ p v w, d = .ref p ∧ m' p = some (.lst [dS v, dS w]) ∧ m p = none ∧ v.length ≤ a.1.length + 300 ∧ w.length ≤ a.1.length + 300 ∧ Asked v ∧ Asked w
  exc := fun _ _ _ _ => False
theorem c_odd {T : Tb} {L : Nat} {m : Mp} {k : K3} {x : X3} {w : Sg} {i : Int} (hT : T i_law_odd sp_odd) (hL : 3 < L) (h1 : w.length ≤ 80000) (h2 : Asked w) (hk : ∀ p u v m', Fr [] m m' → m' p = some (.lst [dS u, dS v]) → m p = none → u.length ≤ w.length + 300 → v.length ≤ w.length + 300 → Asked u → Asked v → k (.ref p) m') : callS T L i_law_odd [dS w, .int i] m k x := by
  refine x_call hT (w, i) hL ⟨rfl, h1, h2⟩ ?_ (fun _ _ h => h.elim)
  rintro d m' ⟨f, p, u, v, rfl, a, b, c, e, g, h⟩
  exact hk p u v m' f a b c e g h
theorem b_odd (T : Tb) (hO : T i_law_of sp_lof) : BodyOk (t_law_odd T) N_law_odd sp_odd 2 := by
  intro L a ds m k x hl hk hx hp hq he
  dsimp only [sp_odd] at hl hp hq he
  obtain ⟨w, c⟩ := a
  obtain ⟨rfl, h1, h2⟩ := hp
  dsimp only at *
  have ofl : ∀ p : Sg, p.length ≤ 10 → (ofP p).length ≤ 40 := fun p hp => by have := ofP_len (p := p) (by omega); omega
  unfold t_law_odd
  walk_at "x"
  refine c_lof [97, 98] hO rfl (by omega) (by decide) (by decide) (fun m1 f1 => ?_)
  walk_at "x"
  refine c_lof [97, 9, 98, 10] hO rfl (by omega) (by decide) (by decide) (fun m2 f2 => ?_)
  walk_at "x"
  refine c_lof [10] hO rfl (by omega) (by decide) (by decide) (fun m3 f3 => ?_)
  walk_at "x"
  refine c_lof [97, 10] hO rfl (by omega) (by decide) (by decide) (fun m4 f4 => ?_)
  walk_at "x"
  refine c_lof [10, 10] hO rfl (by omega) (by decide) (by decide) (fun m5 f5 => ?_)
  have l1 := ofl [97, 10] (by decide)
  have l2 := ofl [10, 10] (by decide)
  walk_at "x"
  refine fx_addW (by omega) ?_
  walk_at "x"
  rename_i q hq1
  obtain ⟨some5, hsome⟩ : ∃ ws : List Sg, ws = [[48, 58, 48, 10], ofP [97, 98], ofP [97, 9, 98, 10], ofP [10], ofP [97, 10] ++ ofP [10, 10]] := ⟨_, rfl⟩
  have hlen5 : some5.length = 5 := by rw [hsome]; rfl
  have h5 : ∀ v ∈ some5, v.length ≤ 80 ∧ Asked v := fun v hv => by
    have as : ∀ p : Sg, (∀ c ∈ p, okC c) → Asked (ofP p) := fun p hp => asked_of hp
    have d : ∀ p : Sg, (p.all fun c => decide (c = 9 ∨ c = 10 ∨ (32 ≤ c ∧ c ≤ 126 ∧ c ≠ 37))) = true → ∀ c ∈ p, okC c := fun p hp c hc => by
      have := of_decide_eq_true (List.all_eq_true.mp hp c hc)
      unfold okC paySg
      omega
    rw [hsome] at hv
    simp only [List.mem_cons, List.not_mem_nil, or_false] at hv
    rcases hv with rfl | rfl | rfl | rfl | rfl
    · exact ⟨by decide, d _ (by decide)⟩
    · exact ⟨Nat.le_trans (ofl _ (by decide)) (by decide), as _ (d _ (by decide))⟩
    · exact ⟨Nat.le_trans (ofl _ (by decide)) (by decide), as _ (d _ (by decide))⟩
    · exact ⟨Nat.le_trans (ofl _ (by decide)) (by decide), as _ (d _ (by decide))⟩
    · exact ⟨by rw [List.length_append]; omega, (as _ (d _ (by decide))).app (as _ (d _ (by decide)))⟩
  have at5 : ∀ z : Int, ∃ v, atI (wD some5) (z % 5) = some (dS v) ∧ v.length ≤ 80 ∧ Asked v := fun z => by
    have b1 := Int.emod_nonneg z (show (5:Int) ≠ 0 by decide)
    have b2 := Int.emod_lt_of_pos z (show (0:Int) < 5 by decide)
    obtain ⟨n, hn⟩ := Int.eq_ofNat_of_zero_le b1
    have hn5 : n < some5.length := by omega
    refine ⟨some5[n], ?_, h5 _ (List.getElem_mem _)⟩
    rw [hn, atI_of_nat (by rw [List.length_map]; exact hn5)]
    unfold wD
    rw [List.getElem?_map, List.getElem?_eq_getElem hn5]
    rfl
  obtain ⟨v1, e1, s1, t1⟩ := at5 c
  obtain ⟨v2, e2, s2, t2⟩ := at5 (c / 5)
  have hql : ∀ o : O, o = .lst (wD some5) → mset m5 q o q = some (.lst (wD some5)) := fun o e => by rw [e]; exact mset_same
  refine xf_ixL (l := wD some5) (d := dS v1) (RL.of (hql _ (by rw [hsome]; rfl))) e1 ?_
  walk_at "x"
  refine fx_addW (by omega) ?_
  walk_at "x"
  refine c_lof [122, 10] hO rfl (by omega) (by decide) (by decide) (fun m6 f6 => ?_)
  have l3 := ofl [122, 10] (by decide)
  have hq6 : m6 q = some (.lst (wD some5)) := f6.at ni_nil (hql _ (by rw [hsome]; rfl))
  walk_at "x"
  refine fx_addW (by rw [List.length_append]; omega) ?_
  walk_at "x"
  refine xf_ixL (l := wD some5) (d := dS v2) (RL.of hq6) e2 ?_
  walk_at "x"
  refine fx_addW (by omega) ?_
  walk_at "x"
  refine hq _ _ ⟨by walk_at "fr", _, _, _, rfl, mset_same, ?_, by simp only [List.length_append]; omega, by rw [List.length_append]; omega, (h2.app t1).app (asked_of fun c hc => ?_), t2.app h2⟩
  · walk_at "gn"
  · simp only [List.mem_cons, List.not_mem_nil, or_false] at hc
    unfold okC paySg
    omega

/-! k91: the lists drawn -/
def HoldT (m : Mp) (qs : List Addr) (ws : List (List Sg)) : Prop := qs.length = ws.length ∧ ∀ (j : Nat) (q : Addr) (r : List Sg), qs[j]? = some q → ws[j]? = some r → m q = some (.lst (wD r))
theorem HoldT.fr {m m' : Mp} {qs : List Addr} {rs : List (List Sg)} (h : HoldT m qs rs) (f : Fr [] m m') : HoldT m' qs rs := ⟨h.1, fun j q r a b => f.at ni_nil (h.2 j q r a b)⟩
theorem HoldT.put {m : Mp} {qs : List Addr} {rs : List (List Sg)} {p : Addr} {o : O} (h : HoldT m qs rs) (hp : p ∉ qs) : HoldT (mset m p o) qs rs :=
  ⟨h.1, fun j q r a b => (mset_ne fun e => hp (by rw [← e]; exact List.mem_of_getElem? a)).trans (h.2 j q r a b)⟩
theorem HoldT.get {m : Mp} {qs : List Addr} {rs : List (List Sg)} {q : Addr} {j : Nat} (h : HoldT m qs rs) (hq : qs[j]? = some q) : ∃ r, rs[j]? = some r ∧ m q = some (.lst (wD r)) := by
  have h1 := (List.getElem?_eq_some_iff.mp hq).1
  exact ⟨rs[j]'(h.1 ▸ h1), List.getElem?_eq_getElem _, h.2 j q _ hq (List.getElem?_eq_getElem _)⟩
theorem HoldT.there {m : Mp} {qs : List Addr} {rs : List (List Sg)} {q : Addr} (h : HoldT m qs rs) (hq : q ∈ qs) : m q ≠ none := by
  obtain ⟨j, hj⟩ := List.mem_iff_getElem?.mp hq
  obtain ⟨r, _, h2⟩ := h.get hj
  rw [h2]
  exact fun z => nomatch z
theorem HoldT.snoc {m : Mp} {qs : List Addr} {rs : List (List Sg)} {q : Addr} {r : List Sg} (h : HoldT m qs rs) (hq : m q = some (.lst (wD r))) : HoldT m (qs ++ [q]) (rs ++ [r]) := by
  refine ⟨by rw [List.length_append, List.length_append, h.1]; rfl, fun j q' r' a b => ?_⟩
  by_cases g : j < qs.length
  · rw [List.getElem?_append_left g] at a
    rw [List.getElem?_append_left (h.1 ▸ g)] at b
    exact h.2 j q' r' a b
  · have g2 : j = qs.length := by
      have := (List.getElem?_eq_some_iff.mp a).1
      rw [List.length_append, List.length_singleton] at this
      omega
    subst g2
    rw [List.getElem?_concat_length] at a
    rw [h.1, List.getElem?_concat_length] at b
    cases a
    cases b
    exact hq
theorem HoldT.init {m : Mp} {qs : List Addr} {rs : List (List Sg)} {q : Addr} {r : List Sg} (h : HoldT m (qs ++ [q]) (rs ++ [r])) : HoldT m qs rs ∧ m q = some (.lst (wD r)) := by
  have hl : qs.length = rs.length := by have := h.1; simp only [List.length_append, List.length_cons, List.length_nil] at this; omega
  refine ⟨⟨hl, fun j q' r' a b => h.2 j q' r' ?_ ?_⟩, h.2 qs.length q r (List.getElem?_concat_length ..) (by rw [hl]; exact List.getElem?_concat_length ..)⟩
  · rw [List.getElem?_append_left (List.getElem?_eq_some_iff.mp a).1]; exact a
  · rw [List.getElem?_append_left (List.getElem?_eq_some_iff.mp b).1]; exact b
/-- the lists so far: n texts in all -/
structure Lsts (m : Mp) (p : Addr) (qs : List Addr) (ws : List (List Sg)) (n : Nat) : Prop where
  h1 : m p = some (.lst (qs.map D.ref))
  hq : HoldT m qs ws
  np : p ∉ qs
  ok : ∀ r ∈ ws, ∀ t ∈ r, TxtG t
  sz : (ws.map List.length).sum ≤ n
  many : ws.length ≤ n
theorem Lsts.fr {m m' : Mp} {p : Addr} {qs : List Addr} {ws : List (List Sg)} {n : Nat} (h : Lsts m p qs ws n) (f : Fr [] m m') : Lsts m' p qs ws n := ⟨f.at ni_nil h.h1, h.hq.fr f, h.np, h.ok, h.sz, h.many⟩
theorem Lsts.nil {m : Mp} {p : Addr} : Lsts (mset m p (.lst [])) p [] [] 0 where
  h1 := mset_same
  hq := ⟨rfl, fun j q r a => nomatch a⟩
  np := List.not_mem_nil
  ok := fun r h => nomatch h
  sz := Nat.le_refl _
  many := Nat.le_refl _
theorem sum_mem {ws : List (List Sg)} {r : List Sg} (h : r ∈ ws) : r.length ≤ (ws.map List.length).sum := by
  induction ws with
  | nil => cases h
  | cons a l ih =>
    rw [List.map_cons, List.sum_cons]
    rcases List.mem_cons.mp h with rfl | h
    · omega
    · have := ih h
      omega
def sp_lists : FSpec where
  al := Addr × List Int
  lev := fun _ => 1
  pre := fun a ds m => ds = [.ref a.1] ∧ m a.1 = some (.lst (a.2.map D.int)) ∧ a.2.length ≤ 60
  post := fun a m d m' => Fr [] m m' ∧ ∃ p qs ws, d = .ref p ∧ m p = none ∧ Lsts m' p qs ws 60 ∧ (∀ r ∈ ws, r ≠ [])
  exc := fun _ _ _ _ => False
theorem c_lists {T : Tb} {L : Nat} {m : Mp} {k : K3} {x : X3} {p : Addr} {ns : List Int} (hT : T i_law_lists sp_lists) (hL : 1 < L) (h1 : m p = some (.lst (ns.map D.int))) (h2 : ns.length ≤ 60) (hk : ∀ p qs ws m', Fr [] m m' → m p = none → Lsts m' p qs ws 60 → (∀ r ∈ ws, r ≠ []) → k (.ref p) m') : callS T L i_law_lists [.ref p] m k x := by
  refine x_call hT (p, ns) hL ⟨rfl, h1, h2⟩ ?_ (fun _ _ h => h.elim)
  rintro d m' ⟨f, p, qs, ws, rfl, a, b, c⟩
  exact hk p qs ws m' f a b c
theorem snoc_of {α : Type} {l : List α} (h : l ≠ []) : ∃ a b, l = a ++ [b] := by
  rcases List.eq_nil_or_concat l with e | ⟨a, b, e⟩
  · exact absurd e h
  · exact ⟨a, b, by rw [e, List.concat_eq_append]⟩
theorem fx_2 {z : Addr} {a b c : Int} {m : Mp} {k : K3} (h : RL m z [.int a, .int b]) (hk : ∀ v, v = a ∨ v = b → k (.int v) m) : fIx (.ref z) (.int (c % 2)) m k := by
  have b1 := Int.emod_nonneg c (show (2:Int) ≠ 0 by decide)
  have b2 := Int.emod_lt_of_pos c (show (0:Int) < 2 by decide)
  have e : c % 2 = 0 ∨ c % 2 = 1 := by omega
  rcases e with e | e <;> rw [e]
  · exact xf_ixL (l := [.int a, .int b]) (d := .int a) h rfl (hk a (.inl rfl))
  · exact xf_ixL (l := [.int a, .int b]) (d := .int b) h rfl (hk b (.inr rfl))
def ones (gs : Sg) : List Sg := gs.map fun g => [g]
theorem flat_ones : ∀ {gs : Sg}, (ones gs).flatten = gs
  | [] => rfl
  | g :: gs => by
    show [g] ++ (ones gs).flatten = _
    rw [flat_ones]
    rfl
theorem join_onesW {gs : Sg} : Txt.join (Str.ofString "") ((ones gs).map SX.S) = SX.S gs := by
  rw [← S_of (z := Txt.join _ _), TL.join_eq]
  show SX.S (TL.tl _) = _
  rw [TL.tl_join, List.map_map]
  show SX.S (TL.joinL [] ((ones gs).map fun z => z)) = _
  rw [List.map_id', join0, flat_ones]
theorem xf_joinO {gs : Sg} {p : Addr} {m : Mp} {k : K3} (h1 : RL m p (wD (ones gs))) (hl : gs.length ≤ 1000) (hk : k (dS gs) m) : fJoin (.str (Str.ofString "")) [.ref p] m k := by
  refine xf_join (ys := (ones gs).map SX.S) (by rw [List.map_map]; exact h1) ?_ (by rw [join_onesW]; exact hk)
  rw [len_sumT, show (Str.ofString "").length = 0 from rfl, Nat.mul_zero]
  have e : ((ones gs).map List.length).sum = gs.length := by
    unfold ones
    rw [List.map_map]
    clear hl h1 hk
    induction gs with
    | nil => rfl
    | cons g gs ih => rw [List.map_cons, List.sum_cons, ih, List.length_cons]; show 1 + _ = _; omega
  rw [e]
  show gs.length ≤ _
  omega
theorem dps_strs {m : Mp} : ∀ {ws : List Sg}, DPs m (wD ws) (ws.map fun w => PyData.str (SX.S w))
  | [] => .nil
  | a :: ws => .cons (.str _) dps_strs
def txP (r : List Sg) : PyData := .list (r.map fun t => PyData.str (SX.S t))
theorem HoldT.dps {m : Mp} : ∀ {qs : List Addr} {ws : List (List Sg)}, HoldT m qs ws → DPs m (qs.map D.ref) (ws.map txP)
  | [], [], _ => .nil
  | [], _ :: _, h => nomatch h.1
  | _ :: _, [], h => nomatch h.1
  | q :: qs, r :: ws, h => .cons (.lst (RL.of (h.2 0 q r rfl rfl)) dps_strs) (HoldT.dps ⟨Nat.succ.inj h.1, fun j q' r' a b => h.2 (j + 1) q' r' a b⟩)
theorem eq_empty {m : Mp} {k : K3} {p z : Addr} {qs : List Addr} {ws : List (List Sg)} (h1 : m p = some (.lst (qs.map D.ref))) (h2 : HoldT m qs ws) (hz : m z = some (.lst [])) (hk : k (.bl (decide (ws = []))) m) : fEq (.ref p) (.ref z) m k := by
  refine ⟨_, _, .lst (RL.of h1) h2.dps, .lst (RL.of hz) .nil, ?_, ?_⟩
  · unfold PEq
    refine Nat.le_trans (Nat.min_le_right _ _) ?_
    decide
  · have e : PyData.eqv (.list (ws.map txP)) (.list []) = decide (ws = []) := by
      cases ws with
      | nil => rfl
      | cons a l => rfl
    rw [e]
    exact hk
theorem set_lastR {qs : List Addr} {a b : Addr} : ((qs ++ [a]).map D.ref).set qs.length (.ref b) = (qs ++ [b]).map D.ref := by
  rw [List.map_append, List.map_append]
  have := set_last (l := qs.map D.ref) (a := D.ref a) (b := D.ref b)
  rw [List.length_map] at this
  exact this
theorem b_lists (T : Tb) (hM : T i_law_mixed sp_mixed) (hS : T i_law_sign sp_sign) : BodyOk (t_law_lists T) N_law_lists sp_lists 1 := by
  intro L a ds m k x hl hk hx hp hq he
  dsimp only [sp_lists] at hl hp hq he
  obtain ⟨p0, ns⟩ := a
  obtain ⟨rfl, h1, h2⟩ := hp
  dsimp only at *
  unfold t_law_lists
  walk_at "x"
  rename_i p hp
  have hpp : p ≠ p0 := fun e => by rw [e, h1] at hp; cases hp
  refine for3 (fun i s m5 => ∃ qs ws c2 c3 c4, s = [some (.ref p0), some (.ref p), c2, c3, c4] ∧ Lsts m5 p qs ws i ∧ (∀ r ∈ ws, r ≠ []) ∧ m5 p0 = some (.lst (ns.map D.int)) ∧ Fr [] m m5) ⟨[], [], _, _, _, rfl, Lsts.nil, fun r h => absurd h List.not_mem_nil, (mset_ne hpp.symm).trans h1, by walk_at "fr"⟩
    (fun i s m _ h => by
      obtain ⟨qs, ws, c2, c3, c4, _, _, _, h, _⟩ := h
      exact RL.of h) ?_ ?_
  · rintro i d s m5 hd ⟨qs, ws, c2, c3, c4, rfl, hL, hne, h5, hf⟩
    obtain ⟨c, hc, rfl⟩ : ∃ c, ns[i]? = some c ∧ d = .int c := by
      rw [List.getElem?_map] at hd
      cases e : ns[i]? with
      | none => rw [e] at hd; cases hd
      | some c => rw [e] at hd; exact ⟨c, rfl, (Option.some.inj hd).symm⟩
    have hi60 : i < 60 := by have := (List.getElem?_eq_some_iff.mp hc).1; omega
    walk_at "x"
    refine c_mixed (n := 1) hM (by omega) rfl (by decide) (fun r => ?_)
    walk_at "x"
    rename_i z0 hz0
    refine fx_2 (RL.of mset_same) (fun v hv => ?_)
    have v1 : 0 ≤ (r : Int) % v ∧ (r : Int) % v < 71 := by rcases hv with rfl | rfl <;> omega
    walk_at "x"
    rename_i q hq1
    refine ⟨fun j m' => ∃ gs : Sg, m' q = some (.lst (wD (ones gs))) ∧ gs.length = j ∧ (∀ g ∈ gs, paySg g ∧ g ≠ 10) ∧ Fr [] m5 m', ⟨[], mset_same, rfl, fun g h => (by cases h), by walk_at "fr"⟩, fun _ _ _ _ => True.intro, ?_, ?_⟩
    · rintro j d m' hd2 ⟨gs, k1, k2, k3, k4⟩
      obtain ⟨h8, h9⟩ := rngD_get hd2
      obtain rfl : d = .int (j : Int) := by rw [h9]; congr 1; omega
      walk_at "x"
      refine c_mixed (n := 5 + j) hM (by omega) (by omega) (by omega) (fun r2 => ?_)
      walk_at "x"
      refine c_sign hS (by omega) ?_
      refine ⟨_, k1, ?_, gs ++ [sgn r2], ?_, by rw [List.length_append, k2]; rfl, fun g hg => ?_, by walk_at "fr"⟩
      · unfold ones
        rw [List.length_map, List.length_map]
        exact Nat.lt_of_lt_of_le (show gs.length < 100 by omega) (by decide)
      · unfold ones
        rw [List.map_append, wD_app]
        exact mset_same
      · rcases List.mem_append.mp hg with hg | hg
        · exact k3 g hg
        · rw [List.mem_singleton.mp hg]; exact sgn_pay
    rintro m6 ⟨gs, k1, k2, k3, k4⟩
    rw [rngD_length] at k2
    walk_at "x"
    refine xf_joinO (RL.of k1) (by omega) ?_
    have hG : TxtG gs := ⟨by omega, k3⟩
    have hL6 := hL.fr k4
    have h56 : m6 p0 = some (.lst (ns.map D.int)) := k4.at ni_nil h5
    have hf6 : Fr [] m m6 := by walk_at "fr"
    clear k1 k2 k4 hq1
    walk_at "x"
    refine x_seqJ (fun s m3 => ∃ qs' q' ws' r' c4, s = [some (.ref p0), some (.ref p), some (.int c), some (dS gs), c4] ∧ Lsts m3 p (qs' ++ [q']) (ws' ++ [r']) (i + 1) ∧ ((ws' ++ [r']).map List.length).sum ≤ i ∧ (∀ r ∈ ws', r ≠ []) ∧ m3 p0 = some (.lst (ns.map D.int)) ∧ Fr [] m m3) ?_ ?_
    rotate_left
    · intro n hn
      have app : ∀ (m3 : Mp) (c4 : Option D) (z : Addr), Lsts m3 p qs ws i → m3 p0 = some (.lst (ns.map D.int)) → Fr [] m m3 → m3 z = none → fAppend (.ref p) [.ref z] (mset m3 z (.lst [])) (fun _ m1 => n [some (.ref p0), some (.ref p), some (.int c), some (dS gs), c4] m1) := by
        intro m3 c4 z hL3 h53 hf3 hz
        have t1 := hL3.h1
        have hzp : z ≠ p := fun e => by rw [e, t1] at hz; cases hz
        have hz0 : z ≠ p0 := fun e => by rw [e, h53] at hz; cases hz
        have hzq : z ∉ qs := fun e => hL3.hq.there e hz
        refine xf_app ((mset_ne hzp.symm).trans t1) ?_ ?_
        · rw [List.length_map, hL3.hq.1]
          have := hL3.many
          exact Nat.lt_of_le_of_lt this (Nat.lt_of_lt_of_le hi60 (by decide))
        refine hn _ _ ⟨qs, z, ws, [], c4, rfl, ⟨?_, ?_, ?_, ?_, ?_, ?_⟩, ?_, hne, ?_, by walk_at "fr"⟩
        · rw [List.map_append]; exact mset_same
        · refine ((hL3.hq.put hzq).put hL3.np).snoc ?_
          rw [mset_ne hzp]
          exact mset_same
        · simp only [List.mem_append, List.mem_singleton, not_or]
          exact ⟨hL3.np, hzp.symm⟩
        · intro r hr
          rcases List.mem_append.mp hr with hr | hr
          · exact hL3.ok r hr
          · rw [List.mem_singleton.mp hr]; exact fun t ht => absurd ht List.not_mem_nil
        · have := hL3.sz
          simp only [List.map_append, List.sum_append, List.map_cons, List.map_nil, List.sum_cons, List.sum_nil, List.length_nil]
          omega
        · have := hL3.many
          rw [List.length_append, List.length_singleton]
          omega
        · have := hL3.sz
          simp only [List.map_append, List.sum_append, List.map_cons, List.map_nil, List.sum_cons, List.sum_nil, List.length_nil]
          omega
        · rw [mset_ne hpp.symm, mset_ne hz0.symm]
          exact h53
      walk_at "x"
      rename_i z hz
      have hzq : z ∉ qs := fun e => hL6.hq.there e hz
      have t1 := hL6.h1
      have hzp : z ≠ p := fun e => by rw [e, t1] at hz; cases hz
      have hz0 : z ≠ p0 := fun e => by rw [e, h56] at hz; cases hz
      have hfz : Fr [] m6 (mset m6 z (.lst [])) := by walk_at "fr"
      have hLz := hL6.fr hfz
      have h5z : mset m6 z (.lst []) p0 = some (.lst (ns.map D.int)) := hfz.at ni_nil h56
      refine eq_empty hLz.h1 hLz.hq mset_same ?_
      have hf7 : Fr [] m (mset m6 z (.lst [])) := by walk_at "fr"
      generalize mset m6 z (.lst []) = m7 at hLz h5z hf7 ⊢
      clear hfz
      have t7 := hLz.h1
      walk_at "x"
      refine x_iD (fun h => ?_) (fun hws => ?_)
      · walk_at "x"
        rename_i z hz
        exact app m7 _ z hLz h5z hf7 hz
      have hc0 : ∃ c0, atI (ns.map D.int) 0 = some (.int c0) := by
        cases ns with
        | nil => cases hc
        | cons a l => exact ⟨a, by show atI _ ((0 : Nat) : Int) = _; rw [atI_of_nat (by simp)]; rfl⟩
      obtain ⟨c0, hc0⟩ := hc0
      walk_at "x"
      refine c_mixed (n := 2) hM (by omega) rfl (by decide) (fun r1 => ?_)
      walk_at "x"
      rename_i z1 hz1
      refine xf_ixL (l := ns.map D.int) (d := .int c0) (RL.of (by walk_at "hp")) hc0 ?_
      walk_at "x"
      refine fx_2 (RL.of mset_same) (fun v2 hv2 => ?_)
      have hv0 : v2 ≠ 0 := by rcases hv2 with rfl | rfl <;> decide
      have hf8 : Fr [] m7 (mset m7 z1 (.lst [.int 2, .int 12])) := by walk_at "fr"
      have hL8 := hLz.fr hf8
      have h58 := hf8.at ni_nil h5z
      have hf9 : Fr [] m (mset m7 z1 (.lst [.int 2, .int 12])) := by walk_at "fr"
      generalize mset m7 z1 (.lst [.int 2, .int 12]) = m8 at hL8 h58 hf9 ⊢
      clear hf8 hLz h5z hf7
      have t8 := hL8.h1
      walk_at "x"
      refine x_iD (fun h => ?_) (fun _ => ?_)
      · walk_at "x"
        rename_i z hz
        exact app m8 _ z hL8 h58 hf9 hz
      obtain ⟨qa, qb, hqs⟩ := snoc_of (l := qs) (fun e => hws (by
        have := hL8.hq.1
        rw [e] at this
        exact List.eq_nil_of_length_eq_zero this.symm))
      obtain ⟨wa, wb, hwe⟩ := snoc_of hws
      have hHi := (hqs ▸ hwe ▸ hL8.hq : HoldT m8 (qa ++ [qb]) (wa ++ [wb])).init
      walk_at "x"
      refine xf_ixL (l := qs.map D.ref) (d := .ref qb) (RL.of t8) (by rw [hqs, List.map_append]; exact atI_last) ?_
      have tb := hHi.2
      walk_at "x"
      rename_i z3 hz3
      refine xf_ixL (l := ns.map D.int) (d := .int c0) (RL.of (by walk_at "hp")) hc0 ?_
      walk_at "x"
      refine fx_2 (RL.of mset_same) (fun v3 hv3 => ?_)
      have hfA : Fr [] m8 (mset m8 z3 (.lst [.int 3, .int 19])) := by walk_at "fr"
      have hLA := hL8.fr hfA
      have h5A := hfA.at ni_nil h58
      have hfA2 : Fr [] m (mset m8 z3 (.lst [.int 3, .int 19])) := by walk_at "fr"
      generalize mset m8 z3 (.lst [.int 3, .int 19]) = m9 at hLA h5A hfA2 ⊢
      clear hfA t8 tb hHi hL8 h58 hf9 t7
      have t9 := hLA.h1
      walk_at "x"
      refine x_iD (fun h => ?_) (fun _ => ?_)
      · walk_at "x"
        rename_i z hz
        exact app m9 _ z hLA h5A hfA2 hz
      · walk_at "x"
        have hsz := hLA.sz
        have hmn := hLA.many
        rw [hqs, hwe] at hLA
        rw [hwe] at hsz hmn hne
        exact hn _ _ ⟨qa, qb, wa, wb, _, rfl, ⟨hLA.h1, hLA.hq, hLA.np, hLA.ok, by omega, by omega⟩, hsz, fun r hr => hne r (List.mem_append_left _ hr), h5A, hfA2⟩
    rintro s m3 ⟨qs', q', ws', r', c4', rfl, hLJ, hszJ, hneJ, h5J, hfJ⟩
    have tJ := hLJ.h1
    have hHi := hLJ.hq.init
    have tb := hHi.2
    walk_at "x"
    refine xf_ixL (l := (qs' ++ [q']).map D.ref) (d := .ref q') (RL.of tJ) (by rw [List.map_append]; exact atI_last) ?_
    walk_at "x"
    rename_i z hz
    have hrl : r'.length ≤ i := by
      have := sum_mem (ws := ws' ++ [r']) (r := r') (by simp)
      omega
    have hqz : z ≠ q' := fun e => by rw [e, tb] at hz; cases hz
    have hpz : z ≠ p := fun e => by rw [e, tJ] at hz; cases hz
    refine xf_addL (l := wD r') (r := [dS gs]) ((mset_ne hqz.symm).trans tb) mset_same (by rw [List.length_map]; exact Nat.le_trans (show r'.length + 1 ≤ 100 by omega) (by decide)) (fun z2 hz2 => ?_)
    have hz2p : z2 ≠ p := fun e => by rw [e, mset_ne hpz.symm, tJ] at hz2; cases hz2
    have hz20 : z2 ≠ p0 := fun e => by rw [e, mset_ne (fun e => by rw [← e, h5J] at hz; cases hz), h5J] at hz2; cases hz2
    walk_at "x"
    refine xf_set (l := (qs' ++ [q']).map D.ref) (j := qs'.length) ((mset_ne hz2p.symm).trans ((mset_ne hpz.symm).trans tJ)) (by rw [List.length_map]; exact ixN_last) ?_
    have hzz : z2 ≠ z := fun e => by rw [e, mset_same] at hz2; cases hz2
    have hz23 : m3 z2 = none := by rw [mset_ne hzz] at hz2; exact hz2
    have hzq1 : z ∉ qs' := fun e => hHi.1.there e hz
    have hzq2 : z2 ∉ qs' := fun e => hHi.1.there e hz23
    have hnp := hLJ.np
    simp only [List.mem_append, List.mem_singleton, not_or] at hnp
    have hmj := hLJ.many
    have hok := hLJ.ok
    refine ⟨qs' ++ [z2], ws' ++ [r' ++ [gs]], _, _, _, rfl, ⟨?_, ?_, ?_, ?_, ?_, ?_⟩, ?_, ?_, by walk_at "fr"⟩
    · rw [set_lastR]; exact mset_same
    · refine (((hHi.1.put hzq1).put hzq2).put hnp.1).snoc ?_
      rw [mset_ne hz2p, wD_app]
      exact mset_same
    · simp only [List.mem_append, List.mem_singleton, not_or]
      exact ⟨hnp.1, hz2p.symm⟩
    · intro r hr
      rcases List.mem_append.mp hr with hr | hr
      · exact hok r (List.mem_append_left _ hr)
      · rw [List.mem_singleton.mp hr]
        intro t ht
        rcases List.mem_append.mp ht with ht | ht
        · exact hok r' (by simp) t ht
        · rw [List.mem_singleton.mp ht]; exact hG
    · simp only [List.map_append, List.sum_append, List.map_cons, List.map_nil, List.sum_cons, List.sum_nil, List.length_append, List.length_cons, List.length_nil] at hszJ ⊢
      omega
    · simp only [List.length_append, List.length_cons, List.length_nil] at hmj ⊢
      omega
    · intro r hr
      rcases List.mem_append.mp hr with hr | hr
      · exact hneJ r hr
      · rw [List.mem_singleton.mp hr]; simp
    · rw [mset_ne hpp.symm, mset_ne hz20.symm, mset_ne (fun e => by rw [← e, h5J] at hz; cases hz)]
      exact h5J
  · rintro s m5 ⟨qs, ws, c2, c3, c4, rfl, hL, hne, h5, hf⟩
    have := hL.sz
    have := hL.many
    rw [List.length_map] at *
    walk_at "x"
    exact hq _ _ ⟨hf, p, qs, ws, rfl, hp, ⟨hL.h1, hL.hq, hL.np, hL.ok, by omega, by omega⟩, hne⟩

/-! k91: plain: records of right texts -/
theorem numL_h : ∀ {n : Nat}, 1 ≤ n → (TL.numL n).head? ≠ some 48 := by
  intro n
  induction n using Nat.strongRecOn with
  | _ n ih =>
    intro h
    by_cases h1 : n < 10
    · rw [TL.numL_lt h1]
      intro e
      have := Option.some.inj e
      omega
    · rw [TL.numL_step (by omega)]
      have h2 := ih (n / 10) (by omega) (by omega)
      cases e : TL.numL (n / 10) with
      | nil => exact absurd e (TL.numL_ne _)
      | cons a l =>
        rw [e] at h2
        exact h2
theorem numH_num {n : Nat} (h : (TL.numL n).length ≤ 20) : numH (TL.numL n) = some n := by
  unfold numH
  rw [if_neg, if_pos, TL.numL_val]
  · intro c hc
    exact mem_F.mpr (TL.numL_digits n c hc)
  · rintro (z | z | ⟨z1, z2⟩)
    · exact TL.numL_ne n z
    · omega
    · by_cases h1 : n < 10
      · rw [TL.numL_lt h1] at z2
        exact absurd z2 (by simp)
      · exact numL_h (by omega) z1
theorem numAt_num {c : Nat} {w rest : Sg} {i n : Nat} (hw : w.drop i = TL.numL n ++ c :: rest) (hc : c ∉ sgF) (h : (TL.numL n).length ≤ 20) : numAt c w i = some (n, i + (TL.numL n).length + 1) := by
  obtain ⟨e1, e2⟩ := head_at (k := c) (r := TL.numL n ++ c :: rest) (j := (TL.numL n).length) (fun d hd e => hc (by
    rw [List.take_left' rfl] at hd
    rw [← e]
    exact mem_F.mpr (TL.numL_digits n d hd))) (by simp)
  rw [List.take_left' rfl] at e1
  rw [← hw] at e1 e2
  rw [num_is (v := n) e2 (by rw [e1]; exact numH_num h), e1]
theorem rec_at {A B p : Sg} (hp : isPay p) (hl : p.length < 100000) : recAt (A ++ (ofP p ++ B)) A.length = some (p, A.length + (ofP p).length) := by
  have hc := chk_ok (w := p)
  have l1 := TL.numL_len (n := p.length) (k := 5) (by decide) (by omega)
  have l2 := TL.numL_len (n := (chk p).toNat) (k := 19) (by decide) (by omega)
  have w1 : (A ++ (ofP p ++ B)).drop A.length = TL.numL p.length ++ 58 :: (p ++ (TL.numL (chk p).toNat ++ 10 :: B)) := by
    rw [List.drop_left' rfl]
    unfold ofP
    simp
  have n1 := numAt_num w1 (by rw [mem_F]; omega) (by omega)
  have w2 : (A ++ (ofP p ++ B)).drop (A.length + (TL.numL p.length).length + 1) = p ++ (TL.numL (chk p).toNat ++ 10 :: B) := by
    rw [show A.length + (TL.numL p.length).length + 1 = A.length + ((TL.numL p.length).length + 1) by omega, ← List.drop_drop, w1, show TL.numL p.length ++ 58 :: (p ++ (TL.numL (chk p).toNat ++ 10 :: B)) = (TL.numL p.length ++ [58]) ++ (p ++ (TL.numL (chk p).toNat ++ 10 :: B)) by simp, List.drop_left' (by simp)]
  have w3 : (A ++ (ofP p ++ B)).drop (A.length + (TL.numL p.length).length + 1 + p.length) = TL.numL (chk p).toNat ++ 10 :: B := by
    rw [← List.drop_drop, w2, List.drop_left' rfl]
  have n2 := numAt_num w3 (by rw [mem_F]; omega) (by omega)
  unfold recAt
  rw [n1]
  dsimp only
  rw [w2, List.take_left' rfl, if_neg (by rintro (z | z)
                                          · omega
                                          · exact z hp), n2]
  dsimp only
  rw [if_pos chk_nat]
  congr 2
  unfold ofP
  simp only [List.length_append, List.length_cons, List.length_nil]
  omega
def cat (ws : List (List Sg)) : Sg := (ws.map fun ts => ofP (payOf ts)).flatten
theorem cat_snoc {a : List (List Sg)} {b : List Sg} : cat (a ++ [b]) = cat a ++ ofP (payOf b) := by unfold cat; simp
theorem recs_cat : ∀ {rest : List (List Sg)} {A : Sg} {f : Nat}, rest.length < f → (∀ ts ∈ rest, isPay (payOf ts) ∧ (payOf ts).length < 100000) → (recsF f (A ++ cat rest) A.length).map Prod.fst = rest.map payOf
  | _, _, 0, h, _ => absurd h (Nat.not_lt_zero _)
  | [], A, f + 1, _, _ => by
    have e : recAt (A ++ cat []) A.length = none := rec_no (num_mem (by rw [List.drop_left' rfl]; exact List.not_mem_nil))
    unfold recsF
    rw [e]
    rfl
  | ts :: r, A, f + 1, h, h2 => by
    have h3 := h2 ts List.mem_cons_self
    have e : recAt (A ++ cat (ts :: r)) A.length = some (payOf ts, A.length + (ofP (payOf ts)).length) := rec_at (B := cat r) h3.1 h3.2
    have e2 : A ++ cat (ts :: r) = (A ++ ofP (payOf ts)) ++ cat r := (List.append_assoc _ _ _).symm
    have ih := recs_cat (rest := r) (A := A ++ ofP (payOf ts)) (f := f) (by simp at h; omega) fun z hz => h2 z (List.mem_cons_of_mem _ hz)
    rw [← e2, List.length_append] at ih
    have e3 : recsF (f + 1) (A ++ cat (ts :: r)) A.length = (payOf ts, A.length + (ofP (payOf ts)).length) :: recsF f (A ++ cat (ts :: r)) (A.length + (ofP (payOf ts)).length) := by
      show (match recAt (A ++ cat (ts :: r)) A.length with
        | none => []
        | some (p, e) => (p, e) :: recsF f (A ++ cat (ts :: r)) e) = _
      rw [e]
    rw [e3, List.map_cons, ih]
    rfl
theorem cat_len {ws : List (List Sg)} : ws.length ≤ (cat ws).length := by
  induction ws with
  | nil => exact Nat.zero_le _
  | cons a l ih =>
    have e : cat (a :: l) = ofP (payOf a) ++ cat l := rfl
    rw [e, List.length_append, List.length_cons]
    have : 1 ≤ (ofP (payOf a)).length := by unfold ofP; simp only [List.length_append, List.length_cons, List.length_nil]; omega
    omega
theorem recs_right {ws : List (List Sg)} (h : ∀ ts ∈ ws, isPay (payOf ts) ∧ (payOf ts).length < 100000) : (recs (cat ws)).map Prod.fst = ws.map payOf := by
  have h2 := cat_len (ws := ws)
  exact recs_cat (A := []) (f := (cat ws).length + 1) (by omega) h
theorem pay_join : ∀ {ts : List Sg}, ts ≠ [] → payOf ts = TL.joinL [10] ts ++ [10]
  | [], h => absurd rfl h
  | [t], _ => by
    show (t ++ [10]) ++ [] = _
    rw [List.append_nil]
    rfl
  | t :: u :: ts, _ => by
    have ih := pay_join (ts := u :: ts) (List.cons_ne_nil _ _)
    show (t ++ [10]) ++ payOf (u :: ts) = _
    rw [ih, join_cons]
    simp
theorem pay_right {ts : List Sg} (h0 : ts ≠ []) (h : ∀ t ∈ ts, TxtG t) : isPay (payOf ts) ∧ lnD (payOf ts) = ts.map SX.S := by
  refine ⟨⟨?_, payOf_ok h⟩, ?_⟩
  · rw [pay_join h0]; simp
  · unfold lnD
    rw [pay_join h0, List.dropLast_concat]
    have e := spl_of (c := 10) h0 fun v hv z => ((h v hv).2 10 z).2 rfl
    rw [← tl_inj' (ys := Txt.split (SX.S (TL.joinL [10] ts)) ⟨#[10]⟩)]
    exact congrArg (List.map SX.S) e
/-! == of data -/
theorem xf_eqD {m : Mp} {k : K3} {u v : D} {d : PyData} (h1 : DP m u d) (h2 : DP m v d) (hd : d.depth ≤ 60) (h : k (.bl true) m) : fEq u v m k := by
  refine ⟨d, d, h1, h2, by unfold PEq; exact Nat.le_trans (Nat.min_le_left _ _) (by omega), ?_⟩
  rw [PySem.SeqAt.eqv_refl_plain d h1.plain]
  exact h
theorem xf_neD {m : Mp} {k : K3} {u v : D} {d : PyData} (h1 : DP m u d) (h2 : DP m v d) (hd : d.depth ≤ 60) (h : k (.bl false) m) : fNe u v m k := by
  refine ⟨d, d, h1, h2, by unfold PEq; exact Nat.le_trans (Nat.min_le_left _ _) (by omega), ?_⟩
  rw [PySem.SeqAt.eqv_refl_plain d h1.plain]
  exact h
theorem depthAll_map {α : Type} {f : α → PyData} {n : Nat} (h : ∀ a, (f a).depth ≤ n) : ∀ {l : List α}, PyData.depthAll (l.map f) ≤ n
  | [] => Nat.zero_le _
  | a :: l => by
    have h1 := h a
    have h2 := depthAll_map h (l := l)
    show max (f a).depth (PyData.depthAll (l.map f)) ≤ n
    omega
def lnP (r : Sg × Nat) : PyData := .list ((lnD r.1).map PyData.str)
theorem dps_strD {m : Mp} : ∀ {ys : List Str}, DPs m (ys.map D.str) (ys.map PyData.str)
  | [] => .nil
  | a :: ys => .cons (.str _) dps_strD
theorem HoldL.dps {m : Mp} : ∀ {qs : List Addr} {rs : List (Sg × Nat)}, HoldL m qs rs → DPs m (qs.map D.ref) (rs.map lnP)
  | [], [], _ => .nil
  | [], _ :: _, h => nomatch h.1
  | _ :: _, [], h => nomatch h.1
  | q :: qs, r :: rs, h => .cons (.lst (RL.of (h.2 0 q r rfl rfl)) dps_strD) (HoldL.dps ⟨Nat.succ.inj h.1, fun j q' r' a b => h.2 (j + 1) q' r' a b⟩)
theorem dps_ends {m : Mp} : ∀ {rs : List (Sg × Nat)}, DPs m (rs.map fun r => D.int (r.2 : Int)) (rs.map fun r => PyData.int (r.2 : Int))
  | [] => .nil
  | r :: rs => .cons (.int _) dps_ends
def toldP (rs : List (Sg × Nat)) : PyData := .tuple [.list (rs.map lnP), .list (rs.map fun r => PyData.int (r.2 : Int))]
theorem Told.dp {m m' : Mp} {rs : List (Sg × Nat)} {p1 p2 : Addr} {qs : List Addr} (h : Told m m' rs p1 p2 qs) : DP m' (.tup [.ref p1, .ref p2]) (toldP rs) :=
  .tup (.cons (.lst (RL.of h.h1) h.hq.dps) (.cons (.lst (RL.of h.h2) dps_ends) .nil))
theorem txP_depth {r : List Sg} : (txP r).depth ≤ 1 := by
  show PyData.depthAll (r.map _) + 1 ≤ 1
  have := depthAll_map (f := fun t => PyData.str (SX.S t)) (n := 0) (fun a => Nat.le_refl _) (l := r)
  omega
theorem lnP_depth {r : Sg × Nat} : (lnP r).depth ≤ 1 := by
  show PyData.depthAll ((lnD r.1).map _) + 1 ≤ 1
  have := depthAll_map (f := PyData.str) (n := 0) (fun a => Nat.le_refl _) (l := lnD r.1)
  omega
theorem toldP_depth {rs : List (Sg × Nat)} : (toldP rs).depth ≤ 60 := by
  have h1 := depthAll_map (f := lnP) (n := 1) (fun a => lnP_depth) (l := rs)
  have h2 := depthAll_map (f := fun r : Sg × Nat => PyData.int (r.2 : Int)) (n := 0) (fun a => Nat.le_refl _) (l := rs)
  show max (PyData.depthAll (rs.map lnP) + 1) (max (PyData.depthAll (rs.map fun r => PyData.int (r.2 : Int)) + 1) 0) + 1 ≤ 60
  omega
/-- the lists that are told of the right text are those drawn -/
theorem lnP_right {ws : List (List Sg)} (h0 : ∀ r ∈ ws, r ≠ []) (h1 : ∀ r ∈ ws, ∀ t ∈ r, TxtG t) (hl : ∀ r ∈ ws, r.length ≤ 100) : (recs (cat ws)).map lnP = ws.map txP := by
  have e := recs_right (ws := ws) fun ts hts => ⟨(pay_right (h0 ts hts) (h1 ts hts)).1, by
    have := payOf_len fun t ht => (h1 ts hts t ht).1
    have := hl ts hts
    omega⟩
  have e2 : (recs (cat ws)).map lnP = ((recs (cat ws)).map Prod.fst).map fun p => .list ((lnD p).map PyData.str) := by rw [List.map_map]; rfl
  rw [e2, e, List.map_map]
  refine List.map_congr_left fun ts hts => ?_
  show PyData.list ((lnD (payOf ts)).map PyData.str) = txP ts
  rw [(pay_right (h0 ts hts) (h1 ts hts)).2, List.map_map]
  rfl

/-! k91: the law -/
def sp_cell : FSpec where
  al := Addr × List Int × Int
  lev := fun _ => 0
  pre := fun a ds m => ds = [.ref a.1, .int a.2.2] ∧ RL m a.1 (a.2.1.map D.int) ∧ 0 ≤ a.2.2
  post := fun a m d m' => ∃ r, d = .int r ∧ m' = m
  exc := fun _ _ _ _ => False
theorem b_cell (T : Tb) : BodyOk (t_law_cell_at T) N_law_cell_at sp_cell 2 := by
  intro L a ds m k x hl hk hx hp hq he
  dsimp only [sp_cell] at hl hp hq he
  obtain ⟨p, l, n⟩ := a
  obtain ⟨rfl, h1, h2⟩ := hp
  dsimp only at *
  unfold t_law_cell_at
  walk_at "x"
  refine x_iD (fun h => ?_) (fun h => ?_)
  · walk_at "x"
    refine fx_M h1 h2 h (fun d hd _ => ?_)
    obtain ⟨i, _, rfl⟩ := List.mem_map.mp hd
    exact hq _ _ ⟨_, rfl, rfl⟩
  · walk_at "x"
    exact hq _ _ ⟨_, rfl, rfl⟩
theorem c_cell {T : Tb} {L : Nat} {m : Mp} {k : K3} {x : X3} {p : Addr} {l : List Int} {n : Int} (hT : T i_law_cell_at sp_cell) (hL : 0 < L) (h1 : RL m p (l.map D.int)) (h2 : 0 ≤ n)
    (hk : ∀ r, k (.int r) m) : callS T L i_law_cell_at [.ref p, .int n] m k x := by
  refine x_call hT ⟨p, l, n⟩ hL ⟨rfl, h1, h2⟩ ?_ (fun _ _ h => h.elim)
  rintro d m' ⟨r, rfl, rfl⟩
  exact hk r
theorem recs_mem {w : Sg} : ∀ {f i : Nat} {r : Sg × Nat}, r ∈ recsF f w i → r.1.length ≤ w.length
  | 0, _, _, h => absurd h List.not_mem_nil
  | f + 1, i, r, h => by
    unfold recsF at h
    cases e : recAt w i with
    | none => rw [e] at h; exact absurd h List.not_mem_nil
    | some r2 =>
      obtain ⟨p, e2⟩ := r2
      rw [e] at h
      rcases List.mem_cons.mp h with rfl | h
      · exact (rec_lt e).2.2.2
      · exact recs_mem h
theorem lnD_len {p : Sg} : (lnD p).length ≤ p.length + 2 := by
  have := PyProof.Rows.split_le (SX.S p.dropLast) ⟨#[10]⟩
  unfold lnD
  rw [show (SX.S p.dropLast).length = p.dropLast.length from str_len, List.length_dropLast] at this
  omega
theorem lnD_ne {p : Sg} : lnD p ≠ [] := fun e => by
  have := PyProof.Rows.split_pos (SX.S p.dropLast) ⟨#[10]⟩
  unfold lnD at e
  rw [e] at this
  exact absurd this (by decide)
theorem cut_lst {l : List D} {a : D} : cutD (l ++ [a]) (some (-1)) none = [a] := by
  unfold cutD
  have e1 : HT.sIx (l ++ [a]).length 0 (some (-1)) = l.length := by
    show (if (-1 : Int) < 0 then ((-1 : Int) + ((l ++ [a]).length : Int)).toNat else min (-1 : Int).toNat (l ++ [a]).length) = _
    rw [if_pos (by decide), List.length_append, List.length_singleton]
    omega
  have e2 : HT.sIx (l ++ [a]).length (l ++ [a]).length none = (l ++ [a]).length := rfl
  rw [e1, e2, List.drop_left' rfl, List.length_append, List.length_singleton, Nat.add_sub_cancel_left]
  rfl
theorem xf_eq7 {z p : Addr} {m : Mp} {k : K3} (h1 : RL m z [.int 7]) (h2 : RL m p [.int 7]) (h : k (.bl true) m) : fEq (.ref z) (.ref p) m k :=
  xf_eqD (d := .list [.int 7]) (.lst h1 (.cons (.int _) .nil)) (.lst h2 (.cons (.int _) .nil)) (by decide) h
theorem xf_eq7n {z p : Addr} {s : Str} {m : Mp} {k : K3} (h1 : RL m z [.str s]) (h2 : RL m p [.int 7]) (h : k (.bl false) m) : fEq (.ref z) (.ref p) m k := by
  refine ⟨_, _, .lst h1 (.cons (.str _) .nil), .lst h2 (.cons (.int _) .nil), ?_, ?_⟩
  · unfold PEq
    exact Nat.le_trans (Nat.min_le_right _ _) (by decide)
  · have e : PyData.eqv (.list [.str s]) (.list [.int 7]) = false := rfl
    rw [e]
    exact h
theorem filter_one {q : Addr} : ∀ {l : List Addr}, l.Nodup → q ∈ l → (l.filter fun z => decide (z = q)).length = 1
  | [], _, h => absurd h List.not_mem_nil
  | a :: l, hn, h => by
    rw [List.nodup_cons] at hn
    by_cases e : a = q
    · subst e
      rw [List.filter_cons, if_pos (by simp), List.length_cons]
      have : l.filter (fun z => decide (z = a)) = [] := List.filter_eq_nil_iff.mpr fun z hz => by
        simp only [decide_eq_true_iff]
        exact fun e => hn.1 (by rw [← e]; exact hz)
      rw [this]; rfl
    · have hm : q ∈ l := by
        rcases List.mem_cons.mp h with h | h
        · exact absurd h.symm e
        · exact h
      rw [List.filter_cons, if_neg (by simpa using e), filter_one hn.2 hm]
theorem cat_app {a b : List (List Sg)} : cat (a ++ b) = cat a ++ cat b := by unfold cat; simp
theorem cat_bound {ws : List (List Sg)} (h : ∀ r ∈ ws, ∀ t ∈ r, TxtG t) (hl : ∀ r ∈ ws, r.length ≤ 100) : (cat ws).length ≤ 71 * (ws.map List.length).sum + 30 * ws.length := by
  induction ws with
  | nil => exact Nat.zero_le _
  | cons a l ih =>
    have h1 := ih (fun r hr => h r (List.mem_cons_of_mem _ hr)) fun r hr => hl r (List.mem_cons_of_mem _ hr)
    have h2 := payOf_len fun t ht => (h a List.mem_cons_self t ht).1
    have h3 := hl a List.mem_cons_self
    have h4 := ofP_len (p := payOf a) (by omega)
    have e : cat (a :: l) = ofP (payOf a) ++ cat l := rfl
    rw [e, List.length_append, List.map_cons, List.sum_cons, List.length_cons]
    omega
theorem cat_asked {ws : List (List Sg)} (h : ∀ r ∈ ws, ∀ t ∈ r, TxtG t) : Asked (cat ws) := by
  induction ws with
  | nil => exact fun c hc => absurd hc List.not_mem_nil
  | cons a l ih =>
    have e : cat (a :: l) = ofP (payOf a) ++ cat l := rfl
    rw [e]
    exact (asked_of (asked_pay (payOf_ok (h a List.mem_cons_self)))).app (ih fun r hr => h r (List.mem_cons_of_mem _ hr))
theorem cut_int {ns : List Int} {lo hi : Option Int} : cutD (ns.map D.int) lo hi = ((ns.drop (HT.sIx ns.length 0 lo)).take (HT.sIx ns.length ns.length hi - HT.sIx ns.length 0 lo)).map D.int := by
  unfold cutD
  rw [List.length_map, List.map_take, List.map_drop]
def sp_law : FSpec where
  al := Addr × List Int
  lev := fun _ => 20
  pre := fun a ds m => ds = [.ref a.1] ∧ Scr m a.1 (a.2.map D.int)
  post := fun a m d m' => d = .bl true
  exc := fun _ _ _ _ => False
theorem b_law (T : Tb) (hCe : T i_law_cell_at sp_cell) (hLi : T i_law_lists sp_lists) (hRe : T i_record sp_record) (hLR : T i_law_record sp_lrecord) (hCh : T i_check_of sp_check) (hLC : T i_law_check sp_lcheck)
    (hSp : T i_law_spoilt sp_spoilt) (hOd : T i_law_odd sp_odd) (hRs : T i_records sp_records) (hLd : T i_law_read sp_lread) : BodyOk (t_law T) N_law sp_law 1 := by
  intro L a ds m k x hl hk hx hp hq he
  dsimp only [sp_law] at hl hp hq he
  obtain ⟨p0, ns⟩ := a
  obtain ⟨rfl, hr⟩ := hp
  dsimp only at *
  have hrl := hr.rl
  unfold t_law
  walk_at "x"
  rename_i z hz
  have hcut : HT.sIx ns.length ns.length (some 62) - HT.sIx ns.length 0 (some 2) ≤ 60 := by
    rw [show (62 : Int) = ((62 : Nat) : Int) from rfl, show (2 : Int) = ((2 : Nat) : Int) from rfl, HT.sIx_nat, HT.sIx_nat]
    omega
  refine c_lists (ns := (ns.drop (HT.sIx ns.length 0 (some 2))).take (HT.sIx ns.length ns.length (some 62) - HT.sIx ns.length 0 (some 2))) hLi (by omega) (by rw [← cut_int]; exact mset_same) (by rw [List.length_take]; omega) (fun p qs ws m1 f1 hpn hLs hne => ?_)
  have hf1 : Fr [] m m1 := by walk_at "fr"
  have hr1 := hr.fr hf1
  clear f1 hpn hz
  have hws1 : ∀ r ∈ ws, r.length ≤ 100 := fun r hrm => by
    have := sum_mem hrm
    have := hLs.sz
    omega
  have hcb := cat_bound hLs.ok hws1
  have hsz := hLs.sz
  have hmn := hLs.many
  have hcl : (cat ws).length ≤ 7000 := by omega
  have t1 := hLs.h1
  walk_at "x"
  refine for3 (fun i s m5 => (∃ c3 c4 c5 c6 c7 c8 c9 c10 c11 c12, s = [some (.ref p0), some (.ref p), some (dS (cat (ws.take i))), c3, c4, c5, c6, c7, c8, c9, c10, c11, c12]) ∧ Fr [] m1 m5) ⟨⟨_, _, _, _, _, _, _, _, _, _, rfl⟩, by walk_at "fr"⟩
    (fun i s m5 _ h => RL.of (h.2.at ni_nil t1)) ?_ ?_
  · rintro i d s m5 hd ⟨⟨c3, c4, c5, c6, c7, c8, c9, c10, c11, c12, rfl⟩, f5⟩
    obtain ⟨q, hqi, rfl⟩ : ∃ q, qs[i]? = some q ∧ d = .ref q := by
      rw [List.getElem?_map] at hd
      cases e : qs[i]? with
      | none => rw [e] at hd; cases hd
      | some q => rw [e] at hd; exact ⟨q, rfl, (Option.some.inj hd).symm⟩
    obtain ⟨ts, hts, hq1⟩ := hLs.hq.get hqi
    have htm := List.mem_of_getElem? hts
    have hok := hLs.ok ts htm
    have htl := hws1 ts htm
    have hq5 := f5.at ni_nil hq1
    have hnx : cat (ws.take (i + 1)) = cat (ws.take i) ++ ofP (payOf ts) := by rw [take_snoc hts, cat_snoc]
    have hnl : (cat (ws.take (i + 1))).length ≤ 7000 := by
      have e : cat ws = cat (ws.take (i + 1)) ++ cat (ws.drop (i + 1)) := by rw [← cat_app, List.take_append_drop]
      have := congrArg List.length e
      rw [List.length_append] at this
      omega
    walk_at "x"
    refine xf_lstL (RL.of hq5) (fun h hh => ?_)
    have hfh : Fr [] m5 (mset m5 h (.lst (wD ts))) := by walk_at "fr"
    walk_at "x"
    refine c_record hRe (by omega) mset_same hok htl (fun m6 f6 => ?_)
    have hh6 : m6 h = some (.lst (wD ts)) := f6.at ni_nil mset_same
    have hf6 : Fr [] m5 m6 := by walk_at "fr"
    have hq6 := hf6.at ni_nil hq5
    clear f6 hfh hh
    walk_at "x"
    rename_i z hz
    have hzq : z ≠ q := fun e => by rw [e, hq6] at hz; cases hz
    refine ⟨fun j m' => m' z = some (.lst (wD ((ts.take j).map fun t => t ++ [10]))) ∧ Fr [] m6 m', ⟨mset_same, by walk_at "fr"⟩, fun _ _ _ g => RL.of (g.2.at ni_nil hq6), ?_, ?_⟩
    · rintro j d m' hd2 ⟨k1, k2⟩
      obtain ⟨t, ht, rfl⟩ := wD_get hd2
      have htl := (hok t (List.mem_of_getElem? ht)).1
      walk_at "x"
      rw [show Str.ofString "\n" = SX.S [10] from rfl]
      refine fx_addW (by simp only [List.length_cons, List.length_nil]; omega) ?_
      refine ⟨_, k1, by rw [List.length_map, List.length_map, List.length_take]; exact Nat.lt_of_le_of_lt (Nat.min_le_right _ _) (Nat.lt_of_le_of_lt (hws1 ts htm) (by decide)), ?_, by walk_at "fr"⟩
      rw [take_snoc ht, List.map_append, wD_app]
      exact mset_same
    rintro m7 ⟨k1, k2⟩
    rw [List.length_map, List.take_length] at k1
    walk_at "x"
    refine xf_joinT (RL.of k1) hok (by omega) ?_
    have hh7 := k2.at ni_nil hh6
    have hq7 := k2.at ni_nil hq6
    have hpl := payOf_len fun t ht => (hok t ht).1
    have hpo := payOf_ok hok
    have hlen := ofP_len (p := payOf ts) (by omega)
    walk_at "x"
    refine c_lrecord hLR (by omega) hq7 hok htl (fun m8 f8 => ?_)
    have hh8 := f8.at ni_nil hh7
    have hq8 := f8.at ni_nil hq7
    have hf8 : Fr [] m1 m8 := by walk_at "fr"
    clear f8 k2 k1 hz hf6
    refine fx_neW ?_
    rw [decT rfl]
    walk_at "x"
    refine xf_neD (d := txP ts) (.lst (RL.of hh8) dps_strs) (.lst (RL.of hq8) dps_strs) (Nat.le_trans txP_depth (by decide)) ?_
    walk_at "x"
    refine c_check hCh (by omega) (by omega) hpo (fun m9 f9 => ?_)
    walk_at "x"
    refine c_lcheck hLC (by omega) (by omega) (fun c hc => pay128 (hpo c hc)) (fun m10 f10 => ?_)
    walk_at "x"
    refine x_iN (fun g => absurd rfl g) (fun _ => ?_)
    walk_at "x"
    rw [hnx, List.length_append] at hnl
    refine fx_addW (by omega) ?_
    walk_at "x"
    rw [hnx]
    exact ⟨⟨_, _, _, _, _, _, _, _, _, _, rfl⟩, by walk_at "fr"⟩
  · rintro s m5 ⟨⟨c3, c4, c5, c6, c7, c8, c9, c10, c11, c12, rfl⟩, f5⟩
    have hL5 := hLs.fr f5
    have hr5 := hr1.fr f5
    have hall : ws.take ((qs.map D.ref).length) = ws := by rw [List.length_map, hLs.hq.1, List.take_length]
    rw [hall]
    have hasw := cat_asked hLs.ok
    clear hall hrl
    walk_at "x"
    refine c_cell hCe (by omega) hr5.rl (by decide) (fun a1 => ?_)
    walk_at "x"
    refine c_cell hCe (by omega) hr5.rl (by decide) (fun a2 => ?_)
    walk_at "x"
    refine c_spoilt hSp (by omega) (by omega) hasw (fun sp hsl hsa => ?_)
    walk_at "x"
    refine c_cell hCe (by omega) hr5.rl (by decide) (fun a3 => ?_)
    walk_at "x"
    refine c_odd hOd (by omega) (by omega) hasw (fun po u v m6 f6 hpo6 hpon hul hvl hua hva => ?_)
    walk_at "x"
    rw [show Str.ofString "7" = SX.S [55] from rfl]
    refine fx_addW (by simp only [List.length_cons, List.length_nil]; omega) ?_
    walk_at "x"
    refine xf_slS' (by show sp.length ≤ _; omega) ?_
    rw [show (20 : Int) = ((20 : Nat) : Int) from rfl, cutWn]
    have ht20 : (sp.take 20).length ≤ 20 := by rw [List.length_take]; omega
    walk_at "x"
    refine fx_addW (by omega) ?_
    walk_at "x"
    rename_i z0 hz0
    have hz0p : z0 ≠ po := fun e => by rw [e, hpo6] at hz0; cases hz0
    refine xf_addL (l := wD [cat ws, sp, [], cat ws ++ [55], sp ++ sp.take 20]) (r := wD [u, v]) mset_same ((mset_ne hz0p.symm).trans hpo6) (by show 5 + 2 ≤ _; decide) (fun z1 hz1 => ?_)
    obtain ⟨told, htold⟩ : ∃ told : List Sg, told = [cat ws, sp, [], cat ws ++ [55], sp ++ sp.take 20, u, v] := ⟨_, rfl⟩
    have hT : ∀ w ∈ told, w.length ≤ 90000 ∧ Asked w := fun w hw => by
      rw [htold] at hw
      simp only [List.mem_cons, List.not_mem_nil, or_false] at hw
      rcases hw with rfl | rfl | rfl | rfl | rfl | rfl | rfl
      · exact ⟨by omega, hasw⟩
      · exact ⟨by omega, hsa⟩
      · exact ⟨by simp, fun c hc => absurd hc List.not_mem_nil⟩
      · exact ⟨by rw [List.length_append]; simp; omega, hasw.app (asked1 (.inl (.inr ⟨by decide, by decide, by decide⟩)))⟩
      · exact ⟨by rw [List.length_append]; omega, hsa.app hsa.take⟩
      · exact ⟨by omega, hua⟩
      · exact ⟨by omega, hva⟩
    have hfz : Fr [] m5 (mset (mset m6 z0 (O.lst [dS (cat ws), dS sp, D.str (Str.ofString ""), dS (cat ws ++ [55]), dS (sp ++ sp.take 20)])) z1 (O.lst (wD [cat ws, sp, [], cat ws ++ [55], sp ++ sp.take 20] ++ wD [u, v]))) := by walk_at "fr"
    have hzz : mset (mset m6 z0 (O.lst [dS (cat ws), dS sp, D.str (Str.ofString ""), dS (cat ws ++ [55]), dS (sp ++ sp.take 20)])) z1 (O.lst (wD [cat ws, sp, [], cat ws ++ [55], sp ++ sp.take 20] ++ wD [u, v])) z1 = some (.lst (wD told)) := by
      rw [htold]; exact mset_same
    generalize mset (mset m6 z0 (O.lst [dS (cat ws), dS sp, D.str (Str.ofString ""), dS (cat ws ++ [55]), dS (sp ++ sp.take 20)])) z1 (O.lst (wD [cat ws, sp, [], cat ws ++ [55], sp ++ sp.take 20] ++ wD [u, v])) = m7 at hfz hzz ⊢
    have hL7 := hL5.fr hfz
    refine x_itL (RL.of hzz) ?_
    refine for3 (fun i s m8 => (∃ c3 c4 c5 c6 c9 c10 c11 c12, s = [some (.ref p0), some (.ref p), some (dS (cat ws)), c3, c4, c5, c6, some (dS sp), some (.ref po), c9, c10, c11, c12]) ∧ Fr [] m7 m8) ⟨⟨_, _, _, _, _, _, _, _, rfl⟩, by walk_at "fr"⟩ (fun i s m8 _ h => RL.of (h.2.at ni_nil hzz)) ?_ ?_
    · rintro i d s m8 hd ⟨⟨c3, c4, c5, c6, c9, c10, c11, c12, rfl⟩, f8⟩
      obtain ⟨w, hw, rfl⟩ := wD_get hd
      obtain ⟨hwl, hwa⟩ := hT w (List.mem_of_getElem? hw)
      walk_at "x"
      refine c_records hRs (by omega) hwl (fun p1 p2 qs1 m9 h9 => ?_)
      walk_at "x"
      refine c_lread hLd (by omega) hwl (fun p3 p4 qs2 m10 h10 => ?_)
      have h9' := h9.fr' h10.fr
      refine xf_neD h9'.dp h10.dp toldP_depth ?_
      walk_at "x"
      have hnodup := (List.nodup_cons.mp (List.nodup_cons.mp h9.nd).2).2
      have hp1q : p1 ∉ qs1 := fun z => (List.nodup_cons.mp h9.nd).1 (List.mem_cons_of_mem _ z)
      have hnew : ∀ q ∈ qs1, m7 q = none := fun q hq => (Fr.gone f8 (h9.nw q (List.mem_cons_of_mem _ (List.mem_cons_of_mem _ hq)))).resolve_left ni_nil
      have hp1n : m7 p1 = none := (Fr.gone f8 (h9.nw p1 List.mem_cons_self)).resolve_left ni_nil
      have f10 : Fr [] m7 m10 := by
        have a1 := h9.fr
        have a2 := h10.fr
        walk_at "fr"
      clear h9 h10
      rw [show Str.ofString "\t" = ⟨#[9]⟩ from rfl]
      refine xf_ninS ?_
      rw [tl_S]
      by_cases g9 : 9 ∈ w
      case' pos =>
        rw [decT g9]
        have hM := h9'
        have fM := f10
        have hp1M := hM.h1
        walk_at "x"
      case' neg =>
        rw [decF g9]
        have hwp : ∀ c ∈ w, paySg c := fun c hc => (hwa c hc).resolve_right fun e => g9 (by rw [← e]; exact hc)
        walk_at "x"
        refine c_check hCh (by omega) (by omega) hwp (fun m11 f11 => ?_)
        walk_at "x"
        refine c_lcheck hLC (by omega) (by omega) (fun c hc => pay128 (hwp c hc)) (fun m12 f12 => ?_)
        walk_at "x"
        refine x_iN (fun g => absurd rfl g) (fun _ => ?_)
        have hM := (h9'.fr' f11).fr' f12
        have fM : Fr [] m7 m12 := by walk_at "fr"
        have hp1M := hM.h1
        walk_at "x"
      all_goals
        have hHM := hM.hq
        clear hM h9' f10
        refine for3 (fun i s mm => (∃ c3 c4 c5 c6 c11 c12, s = [some (.ref p0), some (.ref p), some (dS (cat ws)), c3, c4, c5, c6, some (dS sp), some (.ref po), some (dS w), some (.tup [.ref p1, .ref p2]), c11, c12]) ∧ HoldL mm qs1 (recs w) ∧ mm p1 = some (.lst (qs1.map D.ref)) ∧ Fr [] m7 mm) ⟨⟨_, _, _, _, _, _, rfl⟩, hHM, hp1M, fM⟩ (fun i s mm _ h => RL.of h.2.2.1) ?_ ?_
        · rintro i2 d s mm hd2 ⟨⟨c3, c4, c5, c6, c11, c12, rfl⟩, hHm, hp1m, fm⟩
          obtain ⟨q, hqi, rfl⟩ : ∃ q, qs1[i2]? = some q ∧ d = .ref q := by
            rw [List.getElem?_map] at hd2
            cases e : qs1[i2]? with
            | none => rw [e] at hd2; cases hd2
            | some q => rw [e] at hd2; exact ⟨q, rfl, (Option.some.inj hd2).symm⟩
          have hqm := List.mem_of_getElem? hqi
          have hri := (List.getElem?_eq_some_iff.mp hqi).1
          have hr2 : i2 < (recs w).length := by rw [← hHm.1]; exact hri
          have hqh := hHm.2 i2 q _ hqi (List.getElem?_eq_getElem hr2)
          obtain ⟨rr, hrr⟩ : ∃ rr, rr = (recs w)[i2] := ⟨_, rfl⟩
          rw [← hrr] at hqh
          have hrl : (lnD rr.1).length ≤ 90002 := by
            have h1 : rr.1.length ≤ w.length := recs_mem (f := w.length + 1) (i := 0) (by rw [hrr]; exact List.getElem_mem hr2)
            have := lnD_len (p := rr.1)
            omega
          have hqn := hnew q hqm
          have hqp : q ≠ p1 := fun e => hp1q (by rw [← e]; exact hqm)
          have hapl : ((lnD rr.1).map D.str).length < 100000 := by rw [List.length_map]; exact Nat.lt_of_le_of_lt hrl (by decide)
          walk_at "x"
          rename_i zr hzr
          have hqA : mset mm q (.lst ((lnD rr.1).map D.str ++ [.int 7])) q = some (.lst ((lnD rr.1).map D.str ++ [.int 7])) := mset_same
          have hp1A : mset mm q (.lst ((lnD rr.1).map D.str ++ [.int 7])) p1 = some (.lst (qs1.map D.ref)) := (mset_ne hqp.symm).trans hp1m
          have hoA : ∀ (j : Nat) (q' : Addr) (r' : Sg × Nat), qs1[j]? = some q' → (recs w)[j]? = some r' → q' ≠ q → mset mm q (.lst ((lnD rr.1).map D.str ++ [.int 7])) q' = some (.lst ((lnD r'.1).map D.str)) := fun j q' r' a b c => (mset_ne c).trans (hHm.2 j q' r' a b)
          have fA : Fr [] m7 (mset mm q (.lst ((lnD rr.1).map D.str ++ [.int 7]))) := by walk_at "fr"
          have bk : ∀ m3, Fr [] (mset mm q (.lst ((lnD rr.1).map D.str ++ [.int 7]))) m3 → HoldL (mset m3 q (.lst ((lnD rr.1).map D.str))) qs1 (recs w) := fun m3 f3 => by
            refine ⟨hHm.1, fun j q' r' a b => ?_⟩
            by_cases e : q' = q
            · subst e
              have hj : j = i2 := (List.getElem?_inj (List.getElem?_eq_some_iff.mp a).1 hnodup).mp (a.trans hqi.symm)
              subst hj
              rw [List.getElem?_eq_getElem hr2, ← hrr] at b
              cases b
              exact mset_same
            · rw [mset_ne e]
              exact f3.at ni_nil (hoA j q' r' a b e)
          generalize mset mm q (.lst ((lnD rr.1).map D.str ++ [.int 7])) = mA at hqA hp1A hoA fA bk hzr ⊢
          have hzq : zr ∉ qs1 := fun e => by
            obtain ⟨j, hj⟩ := List.mem_iff_getElem?.mp e
            by_cases e2 : zr = q
            · rw [e2, hqA] at hzr; cases hzr
            · have h1 := (List.getElem?_eq_some_iff.mp hj).1
              have := hoA j zr _ hj (List.getElem?_eq_getElem (show j < (recs w).length by rw [← hHm.1]; exact h1)) e2
              rw [this] at hzr; cases hzr
          refine ⟨fun j m' => m' zr = some (.lst (((qs1.take j).filter fun z => decide (z = q)).map D.ref)) ∧ Fr [] mA m', ⟨mset_same, by walk_at "fr"⟩, fun _ _ _ g => RL.of (g.2.at ni_nil hp1A), ?_, ?_⟩
          · rintro j d m' hd3 ⟨k1, k2⟩
            obtain ⟨q', hqj, rfl⟩ : ∃ q', qs1[j]? = some q' ∧ d = .ref q' := by
              rw [List.getElem?_map] at hd3
              cases e : qs1[j]? with
              | none => rw [e] at hd3; cases hd3
              | some q => rw [e] at hd3; exact ⟨q, rfl, (Option.some.inj hd3).symm⟩
            have hrj : j < (recs w).length := by rw [← hHm.1]; exact (List.getElem?_eq_some_iff.mp hqj).1
            have hfl : ((qs1.take j).filter fun z => decide (z = q)).length ≤ 90100 := by
              have h1 := List.length_filter_le (fun z => decide (z = q)) (qs1.take j)
              rw [List.length_take, hHm.1] at h1
              have := recs_many (f := w.length + 1) (w := w) (i := 0)
              unfold recs at h1
              omega
            by_cases e : q' = q
            · subst e
              have hq' := k2.at ni_nil hqA
              walk_at "x"
              rename_i z3 hz3 z4 hz4
              have hr3 : zr ≠ z3 := fun e => by rw [← e, k1] at hz3; cases hz3
              have hr4 : zr ≠ z4 := fun e => by rw [← e, mset_ne hr3, k1] at hz4; cases hz4
              have h34 : z3 ≠ z4 := fun e => by rw [← e, mset_same] at hz4; cases hz4
              refine xf_eq7 (RL.of ((mset_ne h34).trans (by rw [cut_lst]; exact mset_same))) (RL.of mset_same) ?_
              walk_at "x"
              refine ⟨_, (mset_ne hr4).trans ((mset_ne hr3).trans k1), by rw [List.length_map]; exact Nat.lt_of_le_of_lt hfl (by decide), ?_, by walk_at "fr"⟩
              rw [take_snoc hqj, List.filter_append, List.map_append, show [q'].filter (fun z => decide (z = q')) = [q'] by simp]
              exact mset_same
            · have hq' := k2.at ni_nil (hoA j q' _ hqj (List.getElem?_eq_getElem hrj) e)
              obtain ⟨la, lb, hlab⟩ := snoc_of (l := lnD ((recs w)[j]).1) lnD_ne
              rw [hlab, List.map_append] at hq'
              walk_at "x"
              rename_i z3 hz3 z4 hz4
              have hr3 : zr ≠ z3 := fun e => by rw [← e, k1] at hz3; cases hz3
              have hr4 : zr ≠ z4 := fun e => by rw [← e, mset_ne hr3, k1] at hz4; cases hz4
              have h34 : z3 ≠ z4 := fun e => by rw [← e, mset_same] at hz4; cases hz4
              refine xf_eq7n (s := lb) (RL.of ((mset_ne h34).trans (by rw [show [lb].map D.str = [D.str lb] from rfl, cut_lst]; exact mset_same))) (RL.of mset_same) ?_
              walk_at "x"
              refine ⟨?_, by walk_at "fr"⟩
              rw [take_snoc hqj, List.filter_append, show [q'].filter (fun z => decide (z = q)) = [] by simp [e], List.append_nil]
              exact (mset_ne hr4).trans ((mset_ne hr3).trans k1)
          · rintro m' ⟨k1, k2⟩
            rw [List.length_map, List.take_length] at k1
            have hq' := k2.at ni_nil hqA
            walk_at "x"
            refine x_iN (fun g => absurd (by rw [List.length_map, filter_one hnodup hqm]; rfl) g) (fun _ => ?_)
            walk_at "x"
            refine ⟨q, _, .int 7, rfl, rfl, hq', by simp, ?_⟩
            rw [List.dropLast_concat]
            exact ⟨⟨_, _, _, _, _, _, rfl⟩, bk m' k2, (mset_ne hqp.symm).trans (k2.at ni_nil hp1A), by walk_at "fr"⟩
        · rintro s mm ⟨⟨c3, c4, c5, c6, c11, c12, rfl⟩, hHm, hp1m, fm⟩
          exact ⟨⟨_, _, _, _, _, _, _, _, rfl⟩, fm⟩
    · rintro s m8 ⟨⟨c3, c4, c5, c6, c9, c10, c11, c12, rfl⟩, f8⟩
      have hL8 := hL7.fr f8
      walk_at "x"
      refine c_records hRs (by omega) (by omega) (fun p1 p2 qs1 m9 h9 => ?_)
      have hL9 := hL8.fr h9.fr
      walk_at "x"
      refine xf_eqD (d := .list (ws.map txP)) (by rw [← lnP_right hne hLs.ok hws1]; exact .lst (RL.of h9.h1) h9.hq.dps) (.lst (RL.of hL9.h1) hL9.hq.dps) ?_ ?_
      · have := depthAll_map (f := txP) (n := 1) (fun a => txP_depth) (l := ws)
        show PyData.depthAll (ws.map txP) + 1 ≤ 60
        omega
      walk_at "x"
      rw [show Str.ofString "" = SX.S [] from rfl]
      refine c_check hCh (by omega) (by simp) (fun c hc => absurd hc List.not_mem_nil) (fun m10 f10 => ?_)
      rw [show chk [] = 0 from rfl]
      walk_at "x"
      exact hq _ _ rfl

def top (i : Nat) : Stmt := PySem.Challenge.pw_papervault_k91_records_read.main.body.getD i (.Pass ⟨0, 0, 0, 0⟩)
structure Wd (P : Program) (w : World) (K : PySem.W.Frag) (mg : Str → Option Value) (base : Heap) (cl : Cl) (T : Tb) (ad : Nat → Addr) (L : Nat) : Prop where
  f_text_codes : Kn P w K mg base cl T L 14 (Str.ofString "text_codes") (ad 14)
  f_codes_of : Kn P w K mg base cl T L 15 (Str.ofString "codes_of") (ad 15)
  f_seal : Kn P w K mg base cl T L 17 (Str.ofString "seal") (ad 17)
  f_check_of : Kn P w K mg base cl T L 146 (Str.ofString "check_of") (ad 146)
  f_record : Kn P w K mg base cl T L 155 (Str.ofString "record") (ad 155)
  f_number_at : Kn P w K mg base cl T L 147 (Str.ofString "number_at") (ad 147)
  f_is_payload : Kn P w K mg base cl T L 148 (Str.ofString "is_payload") (ad 148)
  f_record_at : Kn P w K mg base cl T L 149 (Str.ofString "record_at") (ad 149)
  f_records : Kn P w K mg base cl T L 159 (Str.ofString "records") (ad 159)
  f__law_cell_at : Kn P w K mg base cl T L 9 (Str.ofString "_law_cell_at") (ad 9)
  f__law_mixed : Kn P w K mg base cl T L 150 (Str.ofString "_law_mixed") (ad 150)
  f__law_sign : Kn P w K mg base cl T L 151 (Str.ofString "_law_sign") (ad 151)
  f__law_lists : Kn P w K mg base cl T L 154 (Str.ofString "_law_lists") (ad 154)
  f__law_sealed : Kn P w K mg base cl T L 161 (Str.ofString "_law_sealed") (ad 161)
  f__law_check : Kn P w K mg base cl T L 152 (Str.ofString "_law_check") (ad 152)
  f__law_record : Kn P w K mg base cl T L 156 (Str.ofString "_law_record") (ad 156)
  f__law_number : Kn P w K mg base cl T L 645 (Str.ofString "_law_number") (ad 645)
  f__law_good : Kn P w K mg base cl T L 646 (Str.ofString "_law_good") (ad 646)
  f__law_read : Kn P w K mg base cl T L 160 (Str.ofString "_law_read") (ad 160)
  f__law_spoilt : Kn P w K mg base cl T L 157 (Str.ofString "_law_spoilt") (ad 157)
  f__law_of : Kn P w K mg base cl T L 153 (Str.ofString "_law_of") (ad 153)
  f__law_odd : Kn P w K mg base cl T L 158 (Str.ofString "_law_odd") (ad 158)
  b_all : mg (Str.ofString "all") = none
  b_int : mg (Str.ofString "int") = none
  b_isinstance : mg (Str.ofString "isinstance") = none
  b_len : mg (Str.ofString "len") = none
  b_list : mg (Str.ofString "list") = none
  b_max : mg (Str.ofString "max") = none
  b_ord : mg (Str.ofString "ord") = none
  b_range : mg (Str.ofString "range") = none
  b_str : mg (Str.ofString "str") = none
  b_tuple : mg (Str.ofString "tuple") = none
  c_BASE : ∃ u, mg (Str.ofString "BASE") = some u ∧ RelV (.int 1234567890123456789) u
  c_BEGIN : ∃ u, mg (Str.ofString "BEGIN") = some u ∧ RelV (.int 7) u
  c_FIGURES : ∃ u, mg (Str.ofString "FIGURES") = some u ∧ RelV (.str (Str.ofString "0123456789")) u
  c_HALF : ∃ u, mg (Str.ofString "HALF") = some u ∧ RelV (.int 1000000000000000) u
  c_LEAST : ∃ u, mg (Str.ofString "LEAST") = some u ∧ RelV (.int 1000000000000000000000000000000) u
  c_MOST_FIGURES : ∃ u, mg (Str.ofString "MOST_FIGURES") = some u ∧ RelV (.int 20) u
  c_MOST_SEAL : ∃ u, mg (Str.ofString "MOST_SEAL") = some u ∧ RelV (.int 2305843009213693951) u
  c_PIECE : ∃ u, mg (Str.ofString "PIECE") = some u ∧ RelV (.int 50) u
section
variable {P : Program} {w : World} {K : PySem.W.Frag} {mg : Str → Option Value} {base : Heap} {cl : Cl} {T : Tb} {ad : Nat → Addr} {L : Nat}
abbrev st_text_codes : Stmt := top 6
theorem sc_text_codes : FnScope N_text_codes [(Str.ofString "text")] (defScope st_text_codes) := ⟨rfl, rfl, rfl, by decide +kernel, rfl, by decide +kernel, by decide +kernel⟩
theorem d_text_codes (G : Wd P w K mg base cl T ad L) {f : Addr} (cdv : Value) (A : Around) (outer : List Env) (s : Shared) (H : Hp) (E : XK) (hr : Room L (A.deeper (envOfC (Str.ofString "text_codes") (defScope st_text_codes) s.heap.objs.size f cdv))) :
    QB (cxOf (L2.CX P w) P w K mg base N_text_codes (Str.ofString "text_codes") (defScope st_text_codes) f cdv A outer s H E) cl (fun c d _ H => E c d H) (defBody st_text_codes) (t_text_codes T L) := by
  have S := sc_text_codes
  have tk : Takes (cxOf (L2.CX P w) P w K mg base N_text_codes (Str.ofString "text_codes") (defScope st_text_codes) f cdv A outer s H E) (fun c d _ H => E c d H) := takes_of rfl rfl rfl rfl
  have pw : PassesOwn (model P w) (A.deeper (envOfC (Str.ofString "text_codes") (defScope st_text_codes) s.heap.objs.size f cdv)) (envOfC (Str.ofString "text_codes") (defScope st_text_codes) s.heap.objs.size f cdv) (cxOf (L2.CX P w) P w K mg base N_text_codes (Str.ofString "text_codes") (defScope st_text_codes) f cdv A outer s H E).xe := passes_of rfl
  exact (qb_cons (qs_asg (q_lst qa_nil) (qg_name (i := 1) S.nd rfl (Or.inl rfl) (Or.inl rfl)) rfl rfl rfl)
    (qb_cons (qs_for pw rfl (qi_rng3 rfl G.b_range (qa_cons q_int (qa_cons (q_len rfl G.b_len (qa_cons (q_var (i := 0) rfl (Or.inl rfl) rfl rfl) qa_nil rfl) rfl rfl) (qa_cons q_int qa_nil rfl) rfl) rfl) rfl rfl) (qg_name (i := 2) S.nd rfl (Or.inl rfl) (Or.inl rfl)) (qb_cons (qs_asg q_int (qg_name (i := 3) S.nd rfl (Or.inl rfl) (Or.inl rfl)) rfl rfl rfl)
    (qb_cons (qs_for pw rfl (qi_seq (q_sl (q_var (i := 0) rfl (Or.inl rfl) rfl rfl) (qo_some (q_var (i := 2) rfl (Or.inl rfl) rfl rfl)) (qo_some (q_add (q_var (i := 2) rfl (Or.inl rfl) rfl rfl) q_int)))) (qg_name (i := 4) S.nd rfl (Or.inl rfl) (Or.inl rfl)) (qb_one (qs_asg (q_add (q_mul q_int (q_var (i := 3) rfl (Or.inl rfl) rfl rfl)) (q_ord rfl G.b_ord (qa_cons (q_var (i := 4) rfl (Or.inl rfl) rfl rfl) qa_nil rfl) rfl rfl)) (qg_name (i := 3) S.nd rfl (Or.inl rfl) (Or.inl rfl)) rfl rfl rfl)) (fun _ => rfl))
    (qb_one (qs_exp (q_mt (T := "list") (id := "list.append") PySem.F.plainAttrs_list PySem.F.slot_list_append PySem.F.type_list_append mt_append up_append mono_append (q_var (i := 1) rfl (Or.inl rfl) rfl rfl) (qa_cons (q_var (i := 3) rfl (Or.inl rfl) rfl rfl) qa_nil rfl) rfl rfl rfl rfl rfl) rfl)))) (fun _ => rfl))
    (qb_one (qs_ret (q_var (i := 1) rfl (Or.inl rfl) rfl rfl)))))
abbrev st_codes_of : Stmt := top 7
theorem sc_codes_of : FnScope N_codes_of [(Str.ofString "thing")] (defScope st_codes_of) := ⟨rfl, rfl, rfl, by decide +kernel, rfl, by decide +kernel, by decide +kernel⟩
theorem d_codes_of (G : Wd P w K mg base cl T ad L) {f : Addr} (cdv : Value) (A : Around) (outer : List Env) (s : Shared) (H : Hp) (E : XK) (hr : Room L (A.deeper (envOfC (Str.ofString "codes_of") (defScope st_codes_of) s.heap.objs.size f cdv))) :
    QB (cxOf (L2.CX P w) P w K mg base N_codes_of (Str.ofString "codes_of") (defScope st_codes_of) f cdv A outer s H E) cl (fun c d _ H => E c d H) (defBody st_codes_of) (t_codes_of T L) := by
  have S := sc_codes_of
  have tk : Takes (cxOf (L2.CX P w) P w K mg base N_codes_of (Str.ofString "codes_of") (defScope st_codes_of) f cdv A outer s H E) (fun c d _ H => E c d H) := takes_of rfl rfl rfl rfl
  have pw : PassesOwn (model P w) (A.deeper (envOfC (Str.ofString "codes_of") (defScope st_codes_of) s.heap.objs.size f cdv)) (envOfC (Str.ofString "codes_of") (defScope st_codes_of) s.heap.objs.size f cdv) (cxOf (L2.CX P w) P w K mg base N_codes_of (Str.ofString "codes_of") (defScope st_codes_of) f cdv A outer s H E).xe := passes_of rfl
  exact (qb_cons (qs_if (t_is  (q_var (i := 0) rfl (Or.inl rfl) rfl rfl) q_non) (qb_one (qs_ret (q_lst (qa_cons q_int qa_nil rfl)))) qb_nil)
    (qb_cons (qs_if (t_tru (q_isi rfl G.b_isinstance (qa_cons (q_var (i := 0) rfl (Or.inl rfl) rfl rfl) (qa_cons (q_ty (by decide +kernel) (by decide) rfl rfl G.b_int) qa_nil rfl) rfl) rfl rfl) (fun _ => rfl)) (qb_one (qs_ret (q_lst (qa_cons q_int (qa_cons (q_div (q_add (q_var (i := 0) rfl (Or.inl rfl) rfl rfl) (q_con (v := (.int 1000000000000000000000000000000)) rfl G.c_LEAST (fun _ => rfl) rfl)) (q_con (v := (.int 1000000000000000)) rfl G.c_HALF (fun _ => rfl) rfl)) (qa_cons (q_mod (q_add (q_var (i := 0) rfl (Or.inl rfl) rfl rfl) (q_con (v := (.int 1000000000000000000000000000000)) rfl G.c_LEAST (fun _ => rfl) rfl)) (q_con (v := (.int 1000000000000000)) rfl G.c_HALF (fun _ => rfl) rfl)) qa_nil rfl) rfl) rfl)))) qb_nil)
    (qb_cons (qs_if (t_tru (q_isi rfl G.b_isinstance (qa_cons (q_var (i := 0) rfl (Or.inl rfl) rfl rfl) (qa_cons (q_ty (by decide +kernel) (by decide) rfl rfl G.b_str) qa_nil rfl) rfl) rfl rfl) (fun _ => rfl)) (qb_one (qs_ret (q_add (q_lst (qa_cons q_int (qa_cons (q_len rfl G.b_len (qa_cons (q_var (i := 0) rfl (Or.inl rfl) rfl rfl) qa_nil rfl) rfl rfl) qa_nil rfl) rfl)) (q_call tk ⟨G.f_text_codes, hr⟩ rfl rfl (qa_cons (q_var (i := 0) rfl (Or.inl rfl) rfl rfl) qa_nil rfl) rfl rfl)))) qb_nil)
    (qb_cons (qs_asg (q_lst (qa_cons q_int (qa_cons (q_len rfl G.b_len (qa_cons (q_var (i := 0) rfl (Or.inl rfl) rfl rfl) qa_nil rfl) rfl rfl) qa_nil rfl) rfl)) (qg_name (i := 1) S.nd rfl (Or.inl rfl) (Or.inl rfl)) rfl rfl rfl)
    (qb_cons (qs_for pw rfl (qi_seq (q_var (i := 0) rfl (Or.inl rfl) rfl rfl)) (qg_name (i := 2) S.nd rfl (Or.inl rfl) (Or.inl rfl)) (qb_one (qs_exp (q_mt (T := "list") (id := "list.extend") PySem.F.plainAttrs_list PySem.F.slot_list_extend PySem.F.type_list_extend mt_extend up_extend mono_extend (q_var (i := 1) rfl (Or.inl rfl) rfl rfl) (qa_cons (q_call tk ⟨G.f_codes_of, hr⟩ rfl rfl (qa_cons (q_var (i := 2) rfl (Or.inl rfl) rfl rfl) qa_nil rfl) rfl rfl) qa_nil rfl) rfl rfl rfl rfl rfl) rfl)) (fun _ => rfl))
    (qb_one (qs_ret (q_var (i := 1) rfl (Or.inl rfl) rfl rfl))))))))
abbrev st_seal : Stmt := top 8
theorem sc_seal : FnScope N_seal [(Str.ofString "thing")] (defScope st_seal) := ⟨rfl, rfl, rfl, by decide +kernel, rfl, by decide +kernel, by decide +kernel⟩
theorem d_seal (G : Wd P w K mg base cl T ad L) {f : Addr} (cdv : Value) (A : Around) (outer : List Env) (s : Shared) (H : Hp) (E : XK) (hr : Room L (A.deeper (envOfC (Str.ofString "seal") (defScope st_seal) s.heap.objs.size f cdv))) :
    QB (cxOf (L2.CX P w) P w K mg base N_seal (Str.ofString "seal") (defScope st_seal) f cdv A outer s H E) cl (fun c d _ H => E c d H) (defBody st_seal) (t_seal T L) := by
  have S := sc_seal
  have tk : Takes (cxOf (L2.CX P w) P w K mg base N_seal (Str.ofString "seal") (defScope st_seal) f cdv A outer s H E) (fun c d _ H => E c d H) := takes_of rfl rfl rfl rfl
  have pw : PassesOwn (model P w) (A.deeper (envOfC (Str.ofString "seal") (defScope st_seal) s.heap.objs.size f cdv)) (envOfC (Str.ofString "seal") (defScope st_seal) s.heap.objs.size f cdv) (cxOf (L2.CX P w) P w K mg base N_seal (Str.ofString "seal") (defScope st_seal) f cdv A outer s H E).xe := passes_of rfl
  exact (qb_cons (qs_asg (q_con (v := (.int 7)) rfl G.c_BEGIN (fun _ => rfl) rfl) (qg_name (i := 1) S.nd rfl (Or.inl rfl) (Or.inl rfl)) rfl rfl rfl)
    (qb_cons (qs_for pw rfl (qi_seq (q_call tk ⟨G.f_codes_of, hr⟩ rfl rfl (qa_cons (q_var (i := 0) rfl (Or.inl rfl) rfl rfl) qa_nil rfl) rfl rfl)) (qg_name (i := 2) S.nd rfl (Or.inl rfl) (Or.inl rfl)) (qb_one (qs_asg (q_mod (q_add (q_mul (q_var (i := 1) rfl (Or.inl rfl) rfl rfl) (q_con (v := (.int 1234567890123456789)) rfl G.c_BASE (fun _ => rfl) rfl)) (q_var (i := 2) rfl (Or.inl rfl) rfl rfl)) (q_con (v := (.int 2305843009213693951)) rfl G.c_MOST_SEAL (fun _ => rfl) rfl)) (qg_name (i := 1) S.nd rfl (Or.inl rfl) (Or.inl rfl)) rfl rfl rfl)) (fun _ => rfl))
    (qb_one (qs_ret (q_add (q_var (i := 1) rfl (Or.inl rfl) rfl rfl) q_int)))))
abbrev st_check_of : Stmt := top 13
theorem sc_check_of : FnScope N_check_of [(Str.ofString "text")] (defScope st_check_of) := ⟨rfl, rfl, rfl, by decide +kernel, rfl, by decide +kernel, by decide +kernel⟩
theorem d_check_of (G : Wd P w K mg base cl T ad L) {f : Addr} (cdv : Value) (A : Around) (outer : List Env) (s : Shared) (H : Hp) (E : XK) (hr : Room L (A.deeper (envOfC (Str.ofString "check_of") (defScope st_check_of) s.heap.objs.size f cdv))) :
    QB (cxOf (L2.CX P w) P w K mg base N_check_of (Str.ofString "check_of") (defScope st_check_of) f cdv A outer s H E) cl (fun c d _ H => E c d H) (defBody st_check_of) (t_check_of T L) := by
  have S := sc_check_of
  have tk : Takes (cxOf (L2.CX P w) P w K mg base N_check_of (Str.ofString "check_of") (defScope st_check_of) f cdv A outer s H E) (fun c d _ H => E c d H) := takes_of rfl rfl rfl rfl
  have pw : PassesOwn (model P w) (A.deeper (envOfC (Str.ofString "check_of") (defScope st_check_of) s.heap.objs.size f cdv)) (envOfC (Str.ofString "check_of") (defScope st_check_of) s.heap.objs.size f cdv) (cxOf (L2.CX P w) P w K mg base N_check_of (Str.ofString "check_of") (defScope st_check_of) f cdv A outer s H E).xe := passes_of rfl
  exact (qb_cons (qs_asg q_int (qg_name (i := 1) S.nd rfl (Or.inl rfl) (Or.inl rfl)) rfl rfl rfl)
    (qb_cons (qs_for pw rfl (qi_rng3 rfl G.b_range (qa_cons q_int (qa_cons (q_len rfl G.b_len (qa_cons (q_var (i := 0) rfl (Or.inl rfl) rfl rfl) qa_nil rfl) rfl rfl) (qa_cons (q_con (v := (.int 50)) rfl G.c_PIECE (fun _ => rfl) rfl) qa_nil rfl) rfl) rfl) rfl rfl) (qg_name (i := 2) S.nd rfl (Or.inl rfl) (Or.inl rfl)) (qb_one (qs_asg (q_call tk ⟨G.f_seal, hr⟩ rfl rfl (qa_cons (q_tup (qa_cons (q_var (i := 1) rfl (Or.inl rfl) rfl rfl) (qa_cons (q_repC (q_var (i := 0) rfl (Or.inl rfl) rfl rfl) (q_var (i := 2) rfl (Or.inl rfl) rfl rfl) (q_var (i := 2) rfl (Or.inl rfl) rfl rfl) (q_con (v := (.int 50)) rfl G.c_PIECE (fun _ => rfl) rfl) rfl (by decide) rfl rfl rfl) qa_nil rfl) rfl)) qa_nil rfl) rfl rfl) (qg_name (i := 1) S.nd rfl (Or.inl rfl) (Or.inl rfl)) rfl rfl rfl)) (fun _ => rfl))
    (qb_one (qs_ret (q_var (i := 1) rfl (Or.inl rfl) rfl rfl)))))
abbrev st_record : Stmt := top 14
theorem sc_record : FnScope N_record [(Str.ofString "texts")] (defScope st_record) := ⟨rfl, rfl, rfl, by decide +kernel, rfl, by decide +kernel, by decide +kernel⟩
theorem d_record (G : Wd P w K mg base cl T ad L) {f : Addr} (cdv : Value) (A : Around) (outer : List Env) (s : Shared) (H : Hp) (E : XK) (hr : Room L (A.deeper (envOfC (Str.ofString "record") (defScope st_record) s.heap.objs.size f cdv))) :
    QB (cxOf (L2.CX P w) P w K mg base N_record (Str.ofString "record") (defScope st_record) f cdv A outer s H E) cl (fun c d _ H => E c d H) (defBody st_record) (t_record T L) := by
  have S := sc_record
  have tk : Takes (cxOf (L2.CX P w) P w K mg base N_record (Str.ofString "record") (defScope st_record) f cdv A outer s H E) (fun c d _ H => E c d H) := takes_of rfl rfl rfl rfl
  have pw : PassesOwn (model P w) (A.deeper (envOfC (Str.ofString "record") (defScope st_record) s.heap.objs.size f cdv)) (envOfC (Str.ofString "record") (defScope st_record) s.heap.objs.size f cdv) (cxOf (L2.CX P w) P w K mg base N_record (Str.ofString "record") (defScope st_record) f cdv A outer s H E).xe := passes_of rfl
  exact (qb_cons (qs_asg (q_mt (T := "str") (id := "str.join") PySem.F.plainAttrs_str PySem.F.slot_str_join PySem.F.type_str_join mt_join up_join mono_join q_str (qa_cons (q_lc rfl S.nd (qi_seq (q_var (i := 0) rfl (Or.inl rfl) rfl rfl)) (blkOk_by (own := [((Str.ofString "text"), 4)]) (N := N_record) (sc := defScope st_record) (by decide +kernel)) (fun _ _ _ _ _ => (pg_name (i := 4) S.nd rfl (Or.inl rfl) (Or.inr rfl))) (fun _ _ _ _ _ => qts_nil) (fun _ _ _ _ _ => (q_add (q_var (i := 4) rfl (Or.inl rfl) rfl rfl) q_str)) (fun _ => rfl)) qa_nil rfl) rfl rfl rfl rfl rfl) (qg_name (i := 1) S.nd rfl (Or.inl rfl) (Or.inl rfl)) rfl rfl rfl)
    (qb_cons (qs_asg (q_len rfl G.b_len (qa_cons (q_var (i := 1) rfl (Or.inl rfl) rfl rfl) qa_nil rfl) rfl rfl) (qg_name (i := 2) S.nd rfl (Or.inl rfl) (Or.inl rfl)) rfl rfl rfl)
    (qb_cons (qs_asg (q_call tk ⟨G.f_check_of, hr⟩ rfl rfl (qa_cons (q_var (i := 1) rfl (Or.inl rfl) rfl rfl) qa_nil rfl) rfl rfl) (qg_name (i := 3) S.nd rfl (Or.inl rfl) (Or.inl rfl)) rfl rfl rfl)
    (qb_one (qs_ret (q_js (QJ.cons (q_fm (q_var (i := 2) rfl (Or.inl rfl) rfl rfl)) (QJ.cons q_str (QJ.cons (q_fm (q_var (i := 1) rfl (Or.inl rfl) rfl rfl)) (QJ.cons (q_fm (q_var (i := 3) rfl (Or.inl rfl) rfl rfl)) (QJ.cons q_str QJ.nil)))))))))))
abbrev st_number_at : Stmt := top 15
theorem sc_number_at : FnScope N_number_at [(Str.ofString "text"), (Str.ofString "at"), (Str.ofString "mark")] (defScope st_number_at) := ⟨rfl, rfl, rfl, by decide +kernel, rfl, by decide +kernel, by decide +kernel⟩
theorem d_number_at (G : Wd P w K mg base cl T ad L) {f : Addr} (cdv : Value) (A : Around) (outer : List Env) (s : Shared) (H : Hp) (E : XK) (hr : Room L (A.deeper (envOfC (Str.ofString "number_at") (defScope st_number_at) s.heap.objs.size f cdv))) :
    QB (cxOf (L2.CX P w) P w K mg base N_number_at (Str.ofString "number_at") (defScope st_number_at) f cdv A outer s H E) cl (fun c d _ H => E c d H) (defBody st_number_at) (t_number_at T L) := by
  have S := sc_number_at
  have tk : Takes (cxOf (L2.CX P w) P w K mg base N_number_at (Str.ofString "number_at") (defScope st_number_at) f cdv A outer s H E) (fun c d _ H => E c d H) := takes_of rfl rfl rfl rfl
  have pw : PassesOwn (model P w) (A.deeper (envOfC (Str.ofString "number_at") (defScope st_number_at) s.heap.objs.size f cdv)) (envOfC (Str.ofString "number_at") (defScope st_number_at) s.heap.objs.size f cdv) (cxOf (L2.CX P w) P w K mg base N_number_at (Str.ofString "number_at") (defScope st_number_at) f cdv A outer s H E).xe := passes_of rfl
  exact (qb_cons (qs_asg (q_var (i := 1) rfl (Or.inl rfl) rfl rfl) (qg_name (i := 3) S.nd rfl (Or.inl rfl) (Or.inl rfl)) rfl rfl rfl)
    (qb_cons (qs_whl pw (t_w (w_and (t_lt hr.units (q_var (i := 3) rfl (Or.inl rfl) rfl rfl) (q_len rfl G.b_len (qa_cons (q_var (i := 0) rfl (Or.inl rfl) rfl rfl) qa_nil rfl) rfl rfl)) (w_and (t_in (room66 hr) (q_ix hr.units (q_var (i := 0) rfl (Or.inl rfl) rfl rfl) (q_var (i := 3) rfl (Or.inl rfl) rfl rfl) (fun _ _ => rfl)) (q_con (v := (.str (Str.ofString "0123456789"))) rfl G.c_FIGURES (fun _ => rfl) rfl) rfl) (w_and1 (t_le  (q_sub (q_var (i := 3) rfl (Or.inl rfl) rfl rfl) (q_var (i := 1) rfl (Or.inl rfl) rfl rfl)) (q_con (v := (.int 20)) rfl G.c_MOST_FIGURES (fun _ => rfl) rfl)))))) (qb_one (aug_add (i := 3) S.nd rfl (Or.inl rfl) (Or.inl rfl) q_int)))
    (qb_cons (qs_asg (q_sl (q_var (i := 0) rfl (Or.inl rfl) rfl rfl) (qo_some (q_var (i := 1) rfl (Or.inl rfl) rfl rfl)) (qo_some (q_var (i := 3) rfl (Or.inl rfl) rfl rfl))) (qg_name (i := 4) S.nd rfl (Or.inl rfl) (Or.inl rfl)) rfl rfl rfl)
    (qb_cons (qs_if (t_w (w_or (t_eq hr.units (q_var (i := 4) rfl (Or.inl rfl) rfl rfl) q_str) (w_or (t_gt  (q_len rfl G.b_len (qa_cons (q_var (i := 4) rfl (Or.inl rfl) rfl rfl) qa_nil rfl) rfl rfl) (q_con (v := (.int 20)) rfl G.c_MOST_FIGURES (fun _ => rfl) rfl)) (w_or1 (t_w (w_and (t_eq hr.units (q_ix hr.units (q_var (i := 4) rfl (Or.inl rfl) rfl rfl) q_int (fun _ _ => rfl)) q_str) (w_and1 (t_ne hr.units (q_var (i := 4) rfl (Or.inl rfl) rfl rfl) q_str)))))))) (qb_one (qs_ret q_non)) qb_nil)
    (qb_cons (qs_if (t_ne hr.units (q_sl (q_var (i := 0) rfl (Or.inl rfl) rfl rfl) (qo_some (q_var (i := 3) rfl (Or.inl rfl) rfl rfl)) (qo_some (q_add (q_var (i := 3) rfl (Or.inl rfl) rfl rfl) q_int))) (q_var (i := 2) rfl (Or.inl rfl) rfl rfl)) (qb_one (qs_ret q_non)) qb_nil)
    (qb_one (qs_ret (q_tup (qa_cons (q_int1 rfl G.b_int (qa_cons (q_var (i := 4) rfl (Or.inl rfl) rfl rfl) qa_nil rfl) rfl rfl) (qa_cons (q_add (q_var (i := 3) rfl (Or.inl rfl) rfl rfl) q_int) qa_nil rfl) rfl)))))))))
abbrev st_is_payload : Stmt := top 16
theorem sc_is_payload : FnScope N_is_payload [(Str.ofString "text")] (defScope st_is_payload) := ⟨rfl, rfl, rfl, by decide +kernel, rfl, by decide +kernel, by decide +kernel⟩
theorem d_is_payload (G : Wd P w K mg base cl T ad L) {f : Addr} (cdv : Value) (A : Around) (outer : List Env) (s : Shared) (H : Hp) (E : XK) (hr : Room L (A.deeper (envOfC (Str.ofString "is_payload") (defScope st_is_payload) s.heap.objs.size f cdv))) :
    QB (cxOf (L2.CX P w) P w K mg base N_is_payload (Str.ofString "is_payload") (defScope st_is_payload) f cdv A outer s H E) cl (fun c d _ H => E c d H) (defBody st_is_payload) (t_is_payload T L) := by
  have S := sc_is_payload
  have tk : Takes (cxOf (L2.CX P w) P w K mg base N_is_payload (Str.ofString "is_payload") (defScope st_is_payload) f cdv A outer s H E) (fun c d _ H => E c d H) := takes_of rfl rfl rfl rfl
  have pw : PassesOwn (model P w) (A.deeper (envOfC (Str.ofString "is_payload") (defScope st_is_payload) s.heap.objs.size f cdv)) (envOfC (Str.ofString "is_payload") (defScope st_is_payload) s.heap.objs.size f cdv) (cxOf (L2.CX P w) P w K mg base N_is_payload (Str.ofString "is_payload") (defScope st_is_payload) f cdv A outer s H E).xe := passes_of rfl
  exact (qb_cons (qs_if (t_ne hr.units (q_sl (q_var (i := 0) rfl (Or.inl rfl) rfl rfl) (qo_some (q_neg q_int)) qo_none) q_str) (qb_one (qs_ret q_bl)) qb_nil)
    (qb_cons (qs_for pw rfl (qi_seq (q_var (i := 0) rfl (Or.inl rfl) rfl rfl)) (qg_name (i := 1) S.nd rfl (Or.inl rfl) (Or.inl rfl)) (qb_one (qs_if (t_w (w_and (t_ne hr.units (q_var (i := 1) rfl (Or.inl rfl) rfl rfl) q_str) (w_and1 (t_w (w_or (t_lt hr.units (q_ord rfl G.b_ord (qa_cons (q_var (i := 1) rfl (Or.inl rfl) rfl rfl) qa_nil rfl) rfl rfl) q_int) (w_or (t_gt  (q_ord rfl G.b_ord (qa_cons (q_var (i := 1) rfl (Or.inl rfl) rfl rfl) qa_nil rfl) rfl rfl) q_int) (w_or1 (t_eq hr.units (q_ord rfl G.b_ord (qa_cons (q_var (i := 1) rfl (Or.inl rfl) rfl rfl) qa_nil rfl) rfl rfl) q_int)))))))) (qb_one (qs_ret q_bl)) qb_nil)) (fun _ => rfl))
    (qb_one (qs_ret q_bl))))
abbrev st_record_at : Stmt := top 17
theorem sc_record_at : FnScope N_record_at [(Str.ofString "text"), (Str.ofString "at")] (defScope st_record_at) := ⟨rfl, rfl, rfl, by decide +kernel, rfl, by decide +kernel, by decide +kernel⟩
theorem d_record_at (G : Wd P w K mg base cl T ad L) {f : Addr} (cdv : Value) (A : Around) (outer : List Env) (s : Shared) (H : Hp) (E : XK) (hr : Room L (A.deeper (envOfC (Str.ofString "record_at") (defScope st_record_at) s.heap.objs.size f cdv))) :
    QB (cxOf (L2.CX P w) P w K mg base N_record_at (Str.ofString "record_at") (defScope st_record_at) f cdv A outer s H E) cl (fun c d _ H => E c d H) (defBody st_record_at) (t_record_at T L) := by
  have S := sc_record_at
  have tk : Takes (cxOf (L2.CX P w) P w K mg base N_record_at (Str.ofString "record_at") (defScope st_record_at) f cdv A outer s H E) (fun c d _ H => E c d H) := takes_of rfl rfl rfl rfl
  have pw : PassesOwn (model P w) (A.deeper (envOfC (Str.ofString "record_at") (defScope st_record_at) s.heap.objs.size f cdv)) (envOfC (Str.ofString "record_at") (defScope st_record_at) s.heap.objs.size f cdv) (cxOf (L2.CX P w) P w K mg base N_record_at (Str.ofString "record_at") (defScope st_record_at) f cdv A outer s H E).xe := passes_of rfl
  exact (qb_cons (qs_asg (q_call tk ⟨G.f_number_at, hr⟩ rfl rfl (qa_cons (q_var (i := 0) rfl (Or.inl rfl) rfl rfl) (qa_cons (q_var (i := 1) rfl (Or.inl rfl) rfl rfl) (qa_cons q_str qa_nil rfl) rfl) rfl) rfl rfl) (qg_name (i := 2) S.nd rfl (Or.inl rfl) (Or.inl rfl)) rfl rfl rfl)
    (qb_cons (qs_if (t_is  (q_var (i := 2) rfl (Or.inl rfl) rfl rfl) q_non) (qb_one (qs_ret q_non)) qb_nil)
    (qb_cons (qs_asg (q_var (i := 2) rfl (Or.inl rfl) rfl rfl) (qg_tup rfl (qgs_cons (qg_name (i := 3) S.nd rfl (Or.inl rfl) (Or.inl rfl)) (qgs_cons (qg_name (i := 4) S.nd rfl (Or.inl rfl) (Or.inl rfl)) qgs_nil rfl) rfl) rfl rfl) rfl rfl rfl)
    (qb_cons (qs_asg (q_sl (q_var (i := 0) rfl (Or.inl rfl) rfl rfl) (qo_some (q_var (i := 4) rfl (Or.inl rfl) rfl rfl)) (qo_some (q_add (q_var (i := 4) rfl (Or.inl rfl) rfl rfl) (q_var (i := 3) rfl (Or.inl rfl) rfl rfl)))) (qg_name (i := 5) S.nd rfl (Or.inl rfl) (Or.inl rfl)) rfl rfl rfl)
    (qb_cons (qs_if (t_w (w_or (t_lt hr.units (q_len rfl G.b_len (qa_cons (q_var (i := 5) rfl (Or.inl rfl) rfl rfl) qa_nil rfl) rfl rfl) (q_var (i := 3) rfl (Or.inl rfl) rfl rfl)) (w_or1 (t_not (t_tru (q_call tk ⟨G.f_is_payload, hr⟩ rfl rfl (qa_cons (q_var (i := 5) rfl (Or.inl rfl) rfl rfl) qa_nil rfl) rfl rfl) (fun _ => rfl)))))) (qb_one (qs_ret q_non)) qb_nil)
    (qb_cons (qs_asg (q_call tk ⟨G.f_number_at, hr⟩ rfl rfl (qa_cons (q_var (i := 0) rfl (Or.inl rfl) rfl rfl) (qa_cons (q_add (q_var (i := 4) rfl (Or.inl rfl) rfl rfl) (q_var (i := 3) rfl (Or.inl rfl) rfl rfl)) (qa_cons q_str qa_nil rfl) rfl) rfl) rfl rfl) (qg_name (i := 6) S.nd rfl (Or.inl rfl) (Or.inl rfl)) rfl rfl rfl)
    (qb_cons (qs_if (t_w (w_or (t_is  (q_var (i := 6) rfl (Or.inl rfl) rfl rfl) q_non) (w_or1 (t_ne hr.units (q_ix hr.units (q_var (i := 6) rfl (Or.inl rfl) rfl rfl) q_int (fun _ _ => rfl)) (q_call tk ⟨G.f_check_of, hr⟩ rfl rfl (qa_cons (q_var (i := 5) rfl (Or.inl rfl) rfl rfl) qa_nil rfl) rfl rfl))))) (qb_one (qs_ret q_non)) qb_nil)
    (qb_one (qs_ret (q_tup (qa_cons (q_mt (T := "str") (id := "str.split") PySem.F.plainAttrs_str PySem.F.slot_str_split PySem.F.type_str_split mt_split up_split mono_split (q_sl (q_var (i := 5) rfl (Or.inl rfl) rfl rfl) qo_none (qo_some (q_neg q_int))) (qa_cons q_str qa_nil rfl) rfl rfl rfl rfl rfl) (qa_cons (q_ix hr.units (q_var (i := 6) rfl (Or.inl rfl) rfl rfl) q_int (fun _ _ => rfl)) qa_nil rfl) rfl)))))))))))
abbrev st_records : Stmt := top 18
theorem sc_records : FnScope N_records [(Str.ofString "text")] (defScope st_records) := ⟨rfl, rfl, rfl, by decide +kernel, rfl, by decide +kernel, by decide +kernel⟩
theorem d_records (G : Wd P w K mg base cl T ad L) {f : Addr} (cdv : Value) (A : Around) (outer : List Env) (s : Shared) (H : Hp) (E : XK) (hr : Room L (A.deeper (envOfC (Str.ofString "records") (defScope st_records) s.heap.objs.size f cdv))) :
    QB (cxOf (L2.CX P w) P w K mg base N_records (Str.ofString "records") (defScope st_records) f cdv A outer s H E) cl (fun c d _ H => E c d H) (defBody st_records) (t_records T L) := by
  have S := sc_records
  have tk : Takes (cxOf (L2.CX P w) P w K mg base N_records (Str.ofString "records") (defScope st_records) f cdv A outer s H E) (fun c d _ H => E c d H) := takes_of rfl rfl rfl rfl
  have pw : PassesOwn (model P w) (A.deeper (envOfC (Str.ofString "records") (defScope st_records) s.heap.objs.size f cdv)) (envOfC (Str.ofString "records") (defScope st_records) s.heap.objs.size f cdv) (cxOf (L2.CX P w) P w K mg base N_records (Str.ofString "records") (defScope st_records) f cdv A outer s H E).xe := passes_of rfl
  exact (qb_cons (qs_asg (q_lst qa_nil) (qg_name (i := 1) S.nd rfl (Or.inl rfl) (Or.inl rfl)) rfl rfl rfl)
    (qb_cons (qs_asg (q_lst qa_nil) (qg_name (i := 2) S.nd rfl (Or.inl rfl) (Or.inl rfl)) rfl rfl rfl)
    (qb_cons (qs_asg q_int (qg_name (i := 3) S.nd rfl (Or.inl rfl) (Or.inl rfl)) rfl rfl rfl)
    (qb_one (qs_whl pw (t_tru q_bl (fun _ => rfl)) (qb_cons (qs_asg (q_call tk ⟨G.f_record_at, hr⟩ rfl rfl (qa_cons (q_var (i := 0) rfl (Or.inl rfl) rfl rfl) (qa_cons (q_var (i := 3) rfl (Or.inl rfl) rfl rfl) qa_nil rfl) rfl) rfl rfl) (qg_name (i := 4) S.nd rfl (Or.inl rfl) (Or.inl rfl)) rfl rfl rfl)
    (qb_cons (qs_if (t_is  (q_var (i := 4) rfl (Or.inl rfl) rfl rfl) q_non) (qb_one (qs_ret (q_tup (qa_cons (q_var (i := 1) rfl (Or.inl rfl) rfl rfl) (qa_cons (q_var (i := 2) rfl (Or.inl rfl) rfl rfl) qa_nil rfl) rfl)))) qb_nil)
    (qb_cons (qs_asg (q_var (i := 4) rfl (Or.inl rfl) rfl rfl) (qg_tup rfl (qgs_cons (qg_name (i := 5) S.nd rfl (Or.inl rfl) (Or.inl rfl)) (qgs_cons (qg_name (i := 3) S.nd rfl (Or.inl rfl) (Or.inl rfl)) qgs_nil rfl) rfl) rfl rfl) rfl rfl rfl)
    (qb_cons (qs_exp (q_mt (T := "list") (id := "list.append") PySem.F.plainAttrs_list PySem.F.slot_list_append PySem.F.type_list_append mt_append up_append mono_append (q_var (i := 1) rfl (Or.inl rfl) rfl rfl) (qa_cons (q_var (i := 5) rfl (Or.inl rfl) rfl rfl) qa_nil rfl) rfl rfl rfl rfl rfl) rfl)
    (qb_one (qs_exp (q_mt (T := "list") (id := "list.append") PySem.F.plainAttrs_list PySem.F.slot_list_append PySem.F.type_list_append mt_append up_append mono_append (q_var (i := 2) rfl (Or.inl rfl) rfl rfl) (qa_cons (q_var (i := 3) rfl (Or.inl rfl) rfl rfl) qa_nil rfl) rfl rfl rfl rfl rfl) rfl)))))))))))
abbrev st_law_cell_at : Stmt := top 20
theorem sc_law_cell_at : FnScope N_law_cell_at [(Str.ofString "script"), (Str.ofString "k")] (defScope st_law_cell_at) := ⟨rfl, rfl, rfl, by decide +kernel, rfl, by decide +kernel, by decide +kernel⟩
theorem d_law_cell_at (G : Wd P w K mg base cl T ad L) {f : Addr} (cdv : Value) (A : Around) (outer : List Env) (s : Shared) (H : Hp) (E : XK) (hr : Room L (A.deeper (envOfC (Str.ofString "_law_cell_at") (defScope st_law_cell_at) s.heap.objs.size f cdv))) :
    QB (cxOf (L2.CX P w) P w K mg base N_law_cell_at (Str.ofString "_law_cell_at") (defScope st_law_cell_at) f cdv A outer s H E) cl (fun c d _ H => E c d H) (defBody st_law_cell_at) (t_law_cell_at T L) := by
  have S := sc_law_cell_at
  have tk : Takes (cxOf (L2.CX P w) P w K mg base N_law_cell_at (Str.ofString "_law_cell_at") (defScope st_law_cell_at) f cdv A outer s H E) (fun c d _ H => E c d H) := takes_of rfl rfl rfl rfl
  have pw : PassesOwn (model P w) (A.deeper (envOfC (Str.ofString "_law_cell_at") (defScope st_law_cell_at) s.heap.objs.size f cdv)) (envOfC (Str.ofString "_law_cell_at") (defScope st_law_cell_at) s.heap.objs.size f cdv) (cxOf (L2.CX P w) P w K mg base N_law_cell_at (Str.ofString "_law_cell_at") (defScope st_law_cell_at) f cdv A outer s H E).xe := passes_of rfl
  exact (qb_cons (qs_if (t_lt hr.units (q_var (i := 1) rfl (Or.inl rfl) rfl rfl) (q_len rfl G.b_len (qa_cons (q_var (i := 0) rfl (Or.inl rfl) rfl rfl) qa_nil rfl) rfl rfl)) (qb_one (qs_ret (q_ix hr.units (q_var (i := 0) rfl (Or.inl rfl) rfl rfl) (q_var (i := 1) rfl (Or.inl rfl) rfl rfl) (fun _ _ => rfl)))) qb_nil)
    (qb_one (qs_ret q_int)))
abbrev st_law_mixed : Stmt := top 21
theorem sc_law_mixed : FnScope N_law_mixed [(Str.ofString "cell"), (Str.ofString "k")] (defScope st_law_mixed) := ⟨rfl, rfl, rfl, by decide +kernel, rfl, by decide +kernel, by decide +kernel⟩
theorem d_law_mixed (G : Wd P w K mg base cl T ad L) {f : Addr} (cdv : Value) (A : Around) (outer : List Env) (s : Shared) (H : Hp) (E : XK) (hr : Room L (A.deeper (envOfC (Str.ofString "_law_mixed") (defScope st_law_mixed) s.heap.objs.size f cdv))) :
    QB (cxOf (L2.CX P w) P w K mg base N_law_mixed (Str.ofString "_law_mixed") (defScope st_law_mixed) f cdv A outer s H E) cl (fun c d _ H => E c d H) (defBody st_law_mixed) (t_law_mixed T L) := by
  have S := sc_law_mixed
  have tk : Takes (cxOf (L2.CX P w) P w K mg base N_law_mixed (Str.ofString "_law_mixed") (defScope st_law_mixed) f cdv A outer s H E) (fun c d _ H => E c d H) := takes_of rfl rfl rfl rfl
  have pw : PassesOwn (model P w) (A.deeper (envOfC (Str.ofString "_law_mixed") (defScope st_law_mixed) s.heap.objs.size f cdv)) (envOfC (Str.ofString "_law_mixed") (defScope st_law_mixed) s.heap.objs.size f cdv) (cxOf (L2.CX P w) P w K mg base N_law_mixed (Str.ofString "_law_mixed") (defScope st_law_mixed) f cdv A outer s H E).xe := passes_of rfl
  exact (qb_cons (qs_asg (q_mod (q_add (q_add (q_mul (q_mod (q_var (i := 0) rfl (Or.inl rfl) rfl rfl) q_int) (q_add (q_mul q_int (q_var (i := 1) rfl (Or.inl rfl) rfl rfl)) q_int)) (q_mul q_int (q_var (i := 1) rfl (Or.inl rfl) rfl rfl))) q_int) q_int) (qg_name (i := 2) S.nd rfl (Or.inl rfl) (Or.inl rfl)) rfl rfl rfl)
    (qb_one (qs_ret (q_div (q_mod (q_mul (q_var (i := 2) rfl (Or.inl rfl) rfl rfl) (q_var (i := 2) rfl (Or.inl rfl) rfl rfl)) q_int) q_int))))
abbrev st_law_sign : Stmt := top 22
theorem sc_law_sign : FnScope N_law_sign [(Str.ofString "number")] (defScope st_law_sign) := ⟨rfl, rfl, rfl, by decide +kernel, rfl, by decide +kernel, by decide +kernel⟩
theorem d_law_sign (G : Wd P w K mg base cl T ad L) {f : Addr} (cdv : Value) (A : Around) (outer : List Env) (s : Shared) (H : Hp) (E : XK) (hr : Room L (A.deeper (envOfC (Str.ofString "_law_sign") (defScope st_law_sign) s.heap.objs.size f cdv))) :
    QB (cxOf (L2.CX P w) P w K mg base N_law_sign (Str.ofString "_law_sign") (defScope st_law_sign) f cdv A outer s H E) cl (fun c d _ H => E c d H) (defBody st_law_sign) (t_law_sign T L) := by
  have S := sc_law_sign
  have tk : Takes (cxOf (L2.CX P w) P w K mg base N_law_sign (Str.ofString "_law_sign") (defScope st_law_sign) f cdv A outer s H E) (fun c d _ H => E c d H) := takes_of rfl rfl rfl rfl
  have pw : PassesOwn (model P w) (A.deeper (envOfC (Str.ofString "_law_sign") (defScope st_law_sign) s.heap.objs.size f cdv)) (envOfC (Str.ofString "_law_sign") (defScope st_law_sign) s.heap.objs.size f cdv) (cxOf (L2.CX P w) P w K mg base N_law_sign (Str.ofString "_law_sign") (defScope st_law_sign) f cdv A outer s H E).xe := passes_of rfl
  exact (qb_cons (qs_asg q_str (qg_name (i := 1) S.nd rfl (Or.inl rfl) (Or.inl rfl)) rfl rfl rfl)
    (qb_cons (qs_asg (q_add (q_var (i := 1) rfl (Or.inl rfl) rfl rfl) q_str) (qg_name (i := 1) S.nd rfl (Or.inl rfl) (Or.inl rfl)) rfl rfl rfl)
    (qb_one (qs_ret (q_ix hr.units (q_var (i := 1) rfl (Or.inl rfl) rfl rfl) (q_mod (q_var (i := 0) rfl (Or.inl rfl) rfl rfl) q_int) (fun _ _ => rfl))))))
abbrev st_law_lists : Stmt := top 23
theorem sc_law_lists : FnScope N_law_lists [(Str.ofString "cells")] (defScope st_law_lists) := ⟨rfl, rfl, rfl, by decide +kernel, rfl, by decide +kernel, by decide +kernel⟩
theorem d_law_lists (G : Wd P w K mg base cl T ad L) {f : Addr} (cdv : Value) (A : Around) (outer : List Env) (s : Shared) (H : Hp) (E : XK) (hr : Room L (A.deeper (envOfC (Str.ofString "_law_lists") (defScope st_law_lists) s.heap.objs.size f cdv))) :
    QB (cxOf (L2.CX P w) P w K mg base N_law_lists (Str.ofString "_law_lists") (defScope st_law_lists) f cdv A outer s H E) cl (fun c d _ H => E c d H) (defBody st_law_lists) (t_law_lists T L) := by
  have S := sc_law_lists
  have tk : Takes (cxOf (L2.CX P w) P w K mg base N_law_lists (Str.ofString "_law_lists") (defScope st_law_lists) f cdv A outer s H E) (fun c d _ H => E c d H) := takes_of rfl rfl rfl rfl
  have pw : PassesOwn (model P w) (A.deeper (envOfC (Str.ofString "_law_lists") (defScope st_law_lists) s.heap.objs.size f cdv)) (envOfC (Str.ofString "_law_lists") (defScope st_law_lists) s.heap.objs.size f cdv) (cxOf (L2.CX P w) P w K mg base N_law_lists (Str.ofString "_law_lists") (defScope st_law_lists) f cdv A outer s H E).xe := passes_of rfl
  exact (qb_cons (qs_asg (q_lst qa_nil) (qg_name (i := 1) S.nd rfl (Or.inl rfl) (Or.inl rfl)) rfl rfl rfl)
    (qb_cons (qs_for pw rfl (qi_seq (q_var (i := 0) rfl (Or.inl rfl) rfl rfl)) (qg_name (i := 2) S.nd rfl (Or.inr rfl) (Or.inl rfl)) (qb_cons (qs_asg (q_mt (T := "str") (id := "str.join") PySem.F.plainAttrs_str PySem.F.slot_str_join PySem.F.type_str_join mt_join up_join mono_join q_str (qa_cons (q_lc rfl S.nd (qi_rng1 rfl G.b_range (qa_cons (q_mod (q_call tk ⟨G.f__law_mixed, hr⟩ rfl rfl (qa_cons (q_var (i := 2) rfl (Or.inr (Or.inl rfl)) rfl rfl) (qa_cons q_int qa_nil rfl) rfl) rfl rfl) (q_ix hr.units (q_lst (qa_cons q_int (qa_cons q_int qa_nil rfl) rfl)) (q_mod (q_var (i := 2) rfl (Or.inr (Or.inl rfl)) rfl rfl) q_int) (fun _ _ => rfl))) qa_nil rfl) rfl) (blkOk_by (own := [((Str.ofString "k"), 4)]) (N := N_law_lists) (sc := defScope st_law_lists) (by decide +kernel)) (fun _ _ _ _ _ => (pg_name (i := 4) S.nd rfl (Or.inl rfl) (Or.inr rfl))) (fun _ _ _ _ _ => qts_nil) (fun _ _ _ _ _ => (q_call takes0 ⟨G.f__law_sign, hr⟩ rfl rfl (qa_cons (q_call takes0 ⟨G.f__law_mixed, hr⟩ rfl rfl (qa_cons (q_var (i := 2) rfl (Or.inr (Or.inl rfl)) rfl rfl) (qa_cons (q_add q_int (q_var (i := 4) rfl (Or.inl rfl) rfl rfl)) qa_nil rfl) rfl) rfl rfl) qa_nil rfl) rfl rfl)) (fun _ => rfl)) qa_nil rfl) rfl rfl rfl rfl rfl) (qg_name (i := 3) S.nd rfl (Or.inl rfl) (Or.inl rfl)) rfl rfl rfl)
    (qb_consJ (qs_if (t_w (w_or (t_eq hr.units (q_var (i := 1) rfl (Or.inl rfl) rfl rfl) (q_lst qa_nil)) (w_or (t_eq hr.units (q_mod (q_call tk ⟨G.f__law_mixed, hr⟩ rfl rfl (qa_cons (q_var (i := 2) rfl (Or.inr (Or.inl rfl)) rfl rfl) (qa_cons q_int qa_nil rfl) rfl) rfl rfl) (q_ix hr.units (q_lst (qa_cons q_int (qa_cons q_int qa_nil rfl) rfl)) (q_mod (q_ix hr.units (q_var (i := 0) rfl (Or.inl rfl) rfl rfl) q_int (fun _ _ => rfl)) q_int) (fun _ _ => rfl))) q_int) (w_or1 (t_gt  (q_len rfl G.b_len (qa_cons (q_ix hr.units (q_var (i := 1) rfl (Or.inl rfl) rfl rfl) (q_neg q_int) (fun _ _ => rfl)) qa_nil rfl) rfl rfl) (q_ix hr.units (q_lst (qa_cons q_int (qa_cons q_int qa_nil rfl) rfl)) (q_mod (q_ix hr.units (q_var (i := 0) rfl (Or.inl rfl) rfl rfl) q_int (fun _ _ => rfl)) q_int) (fun _ _ => rfl))))))) (qb_one (qs_exp (q_mt (T := "list") (id := "list.append") PySem.F.plainAttrs_list PySem.F.slot_list_append PySem.F.type_list_append mt_append up_append mono_append (q_var (i := 1) rfl (Or.inl rfl) rfl rfl) (qa_cons (q_lst qa_nil) qa_nil rfl) rfl rfl rfl rfl rfl) rfl)) qb_nil)
    (qb_one (qs_sub hr.units (q_add (q_ix hr.units (q_var (i := 1) rfl (Or.inl rfl) rfl rfl) (q_neg q_int) (fun _ _ => rfl)) (q_lst (qa_cons (q_var (i := 3) rfl (Or.inl rfl) rfl rfl) qa_nil rfl))) (q_var (i := 1) rfl (Or.inl rfl) rfl rfl) (q_neg q_int) (fun _ => rfl) rfl rfl rfl)))) (fun _ => rfl))
    (qb_one (qs_ret (q_var (i := 1) rfl (Or.inl rfl) rfl rfl)))))
abbrev st_law_sealed : Stmt := top 24
theorem sc_law_sealed : FnScope N_law_sealed [(Str.ofString "number"), (Str.ofString "piece")] (defScope st_law_sealed) := ⟨rfl, rfl, rfl, by decide +kernel, rfl, by decide +kernel, by decide +kernel⟩
theorem d_law_sealed (G : Wd P w K mg base cl T ad L) {f : Addr} (cdv : Value) (A : Around) (outer : List Env) (s : Shared) (H : Hp) (E : XK) (hr : Room L (A.deeper (envOfC (Str.ofString "_law_sealed") (defScope st_law_sealed) s.heap.objs.size f cdv))) :
    QB (cxOf (L2.CX P w) P w K mg base N_law_sealed (Str.ofString "_law_sealed") (defScope st_law_sealed) f cdv A outer s H E) cl (fun c d _ H => E c d H) (defBody st_law_sealed) (t_law_sealed T L) := by
  have S := sc_law_sealed
  have tk : Takes (cxOf (L2.CX P w) P w K mg base N_law_sealed (Str.ofString "_law_sealed") (defScope st_law_sealed) f cdv A outer s H E) (fun c d _ H => E c d H) := takes_of rfl rfl rfl rfl
  have pw : PassesOwn (model P w) (A.deeper (envOfC (Str.ofString "_law_sealed") (defScope st_law_sealed) s.heap.objs.size f cdv)) (envOfC (Str.ofString "_law_sealed") (defScope st_law_sealed) s.heap.objs.size f cdv) (cxOf (L2.CX P w) P w K mg base N_law_sealed (Str.ofString "_law_sealed") (defScope st_law_sealed) f cdv A outer s H E).xe := passes_of rfl
  exact (qb_cons (qs_asg (q_lst (qa_cons q_int (qa_cons q_int (qa_cons q_int (qa_cons (q_div (q_add (q_var (i := 0) rfl (Or.inl rfl) rfl rfl) (q_pow q_int q_int)) (q_pow q_int q_int)) (qa_cons (q_mod (q_add (q_var (i := 0) rfl (Or.inl rfl) rfl rfl) (q_pow q_int q_int)) (q_pow q_int q_int)) (qa_cons q_int (qa_cons (q_len rfl G.b_len (qa_cons (q_var (i := 1) rfl (Or.inl rfl) rfl rfl) qa_nil rfl) rfl rfl) qa_nil rfl) rfl) rfl) rfl) rfl) rfl) rfl)) (qg_name (i := 2) S.nd rfl (Or.inl rfl) (Or.inl rfl)) rfl rfl rfl)
    (qb_cons (qs_for pw rfl (qi_rng3 rfl G.b_range (qa_cons q_int (qa_cons (q_len rfl G.b_len (qa_cons (q_var (i := 1) rfl (Or.inl rfl) rfl rfl) qa_nil rfl) rfl rfl) (qa_cons q_int qa_nil rfl) rfl) rfl) rfl rfl) (qg_name (i := 3) S.nd rfl (Or.inl rfl) (Or.inl rfl)) (qb_cons (qs_asg q_int (qg_name (i := 4) S.nd rfl (Or.inl rfl) (Or.inl rfl)) rfl rfl rfl)
    (qb_cons (qs_for pw rfl (qi_seq (q_sl (q_var (i := 1) rfl (Or.inl rfl) rfl rfl) (qo_some (q_var (i := 3) rfl (Or.inl rfl) rfl rfl)) (qo_some (q_add (q_var (i := 3) rfl (Or.inl rfl) rfl rfl) q_int)))) (qg_name (i := 5) S.nd rfl (Or.inl rfl) (Or.inl rfl)) (qb_one (qs_asg (q_add (q_mul (q_var (i := 4) rfl (Or.inl rfl) rfl rfl) q_int) (q_ord rfl G.b_ord (qa_cons (q_var (i := 5) rfl (Or.inl rfl) rfl rfl) qa_nil rfl) rfl rfl)) (qg_name (i := 4) S.nd rfl (Or.inl rfl) (Or.inl rfl)) rfl rfl rfl)) (fun _ => rfl))
    (qb_one (qs_exp (q_mt (T := "list") (id := "list.append") PySem.F.plainAttrs_list PySem.F.slot_list_append PySem.F.type_list_append mt_append up_append mono_append (q_var (i := 2) rfl (Or.inl rfl) rfl rfl) (qa_cons (q_var (i := 4) rfl (Or.inl rfl) rfl rfl) qa_nil rfl) rfl rfl rfl rfl rfl) rfl)))) (fun _ => rfl))
    (qb_cons (qs_asg q_int (qg_name (i := 6) S.nd rfl (Or.inl rfl) (Or.inl rfl)) rfl rfl rfl)
    (qb_cons (qs_for pw rfl (qi_seq (q_var (i := 2) rfl (Or.inl rfl) rfl rfl)) (qg_name (i := 7) S.nd rfl (Or.inl rfl) (Or.inl rfl)) (qb_one (qs_asg (q_mod (q_add (q_mul (q_var (i := 6) rfl (Or.inl rfl) rfl rfl) q_int) (q_var (i := 7) rfl (Or.inl rfl) rfl rfl)) (q_sub (q_pow q_int q_int) q_int)) (qg_name (i := 6) S.nd rfl (Or.inl rfl) (Or.inl rfl)) rfl rfl rfl)) (fun _ => rfl))
    (qb_one (qs_ret (q_add (q_var (i := 6) rfl (Or.inl rfl) rfl rfl) q_int)))))))
abbrev st_law_check : Stmt := top 25
theorem sc_law_check : FnScope N_law_check [(Str.ofString "payload")] (defScope st_law_check) := ⟨rfl, rfl, rfl, by decide +kernel, rfl, by decide +kernel, by decide +kernel⟩
theorem d_law_check (G : Wd P w K mg base cl T ad L) {f : Addr} (cdv : Value) (A : Around) (outer : List Env) (s : Shared) (H : Hp) (E : XK) (hr : Room L (A.deeper (envOfC (Str.ofString "_law_check") (defScope st_law_check) s.heap.objs.size f cdv))) :
    QB (cxOf (L2.CX P w) P w K mg base N_law_check (Str.ofString "_law_check") (defScope st_law_check) f cdv A outer s H E) cl (fun c d _ H => E c d H) (defBody st_law_check) (t_law_check T L) := by
  have S := sc_law_check
  have tk : Takes (cxOf (L2.CX P w) P w K mg base N_law_check (Str.ofString "_law_check") (defScope st_law_check) f cdv A outer s H E) (fun c d _ H => E c d H) := takes_of rfl rfl rfl rfl
  have pw : PassesOwn (model P w) (A.deeper (envOfC (Str.ofString "_law_check") (defScope st_law_check) s.heap.objs.size f cdv)) (envOfC (Str.ofString "_law_check") (defScope st_law_check) s.heap.objs.size f cdv) (cxOf (L2.CX P w) P w K mg base N_law_check (Str.ofString "_law_check") (defScope st_law_check) f cdv A outer s H E).xe := passes_of rfl
  exact (qb_cons (qs_asg q_int (qg_name (i := 1) S.nd rfl (Or.inl rfl) (Or.inl rfl)) rfl rfl rfl)
    (qb_cons (qs_for pw rfl (qi_rng3 rfl G.b_range (qa_cons q_int (qa_cons (q_len rfl G.b_len (qa_cons (q_var (i := 0) rfl (Or.inl rfl) rfl rfl) qa_nil rfl) rfl rfl) (qa_cons q_int qa_nil rfl) rfl) rfl) rfl rfl) (qg_name (i := 2) S.nd rfl (Or.inl rfl) (Or.inl rfl)) (qb_one (qs_asg (q_call tk ⟨G.f__law_sealed, hr⟩ rfl rfl (qa_cons (q_var (i := 1) rfl (Or.inl rfl) rfl rfl) (qa_cons (q_repC (q_var (i := 0) rfl (Or.inl rfl) rfl rfl) (q_var (i := 2) rfl (Or.inl rfl) rfl rfl) (q_var (i := 2) rfl (Or.inl rfl) rfl rfl) q_int rfl (by decide) rfl rfl rfl) qa_nil rfl) rfl) rfl rfl) (qg_name (i := 1) S.nd rfl (Or.inl rfl) (Or.inl rfl)) rfl rfl rfl)) (fun _ => rfl))
    (qb_one (qs_ret (q_var (i := 1) rfl (Or.inl rfl) rfl rfl)))))
abbrev st_law_record : Stmt := top 26
theorem sc_law_record : FnScope N_law_record [(Str.ofString "texts")] (defScope st_law_record) := ⟨rfl, rfl, rfl, by decide +kernel, rfl, by decide +kernel, by decide +kernel⟩
theorem d_law_record (G : Wd P w K mg base cl T ad L) {f : Addr} (cdv : Value) (A : Around) (outer : List Env) (s : Shared) (H : Hp) (E : XK) (hr : Room L (A.deeper (envOfC (Str.ofString "_law_record") (defScope st_law_record) s.heap.objs.size f cdv))) :
    QB (cxOf (L2.CX P w) P w K mg base N_law_record (Str.ofString "_law_record") (defScope st_law_record) f cdv A outer s H E) cl (fun c d _ H => E c d H) (defBody st_law_record) (t_law_record T L) := by
  have S := sc_law_record
  have tk : Takes (cxOf (L2.CX P w) P w K mg base N_law_record (Str.ofString "_law_record") (defScope st_law_record) f cdv A outer s H E) (fun c d _ H => E c d H) := takes_of rfl rfl rfl rfl
  have pw : PassesOwn (model P w) (A.deeper (envOfC (Str.ofString "_law_record") (defScope st_law_record) s.heap.objs.size f cdv)) (envOfC (Str.ofString "_law_record") (defScope st_law_record) s.heap.objs.size f cdv) (cxOf (L2.CX P w) P w K mg base N_law_record (Str.ofString "_law_record") (defScope st_law_record) f cdv A outer s H E).xe := passes_of rfl
  exact (qb_cons (qs_asg (q_mt (T := "str") (id := "str.join") PySem.F.plainAttrs_str PySem.F.slot_str_join PySem.F.type_str_join mt_join up_join mono_join q_str (qa_cons (q_lc rfl S.nd (qi_seq (q_var (i := 0) rfl (Or.inl rfl) rfl rfl)) (blkOk_by (own := [((Str.ofString "text"), 2)]) (N := N_law_record) (sc := defScope st_law_record) (by decide +kernel)) (fun _ _ _ _ _ => (pg_name (i := 2) S.nd rfl (Or.inl rfl) (Or.inr rfl))) (fun _ _ _ _ _ => qts_nil) (fun _ _ _ _ _ => (q_add (q_var (i := 2) rfl (Or.inl rfl) rfl rfl) q_str)) (fun _ => rfl)) qa_nil rfl) rfl rfl rfl rfl rfl) (qg_name (i := 1) S.nd rfl (Or.inl rfl) (Or.inl rfl)) rfl rfl rfl)
    (qb_one (qs_ret (q_add (q_add (q_add (q_add (q_str1 rfl G.b_str (qa_cons (q_len rfl G.b_len (qa_cons (q_var (i := 1) rfl (Or.inl rfl) rfl rfl) qa_nil rfl) rfl rfl) qa_nil rfl) rfl rfl) q_str) (q_var (i := 1) rfl (Or.inl rfl) rfl rfl)) (q_str1 rfl G.b_str (qa_cons (q_call tk ⟨G.f__law_check, hr⟩ rfl rfl (qa_cons (q_var (i := 1) rfl (Or.inl rfl) rfl rfl) qa_nil rfl) rfl rfl) qa_nil rfl) rfl rfl)) q_str))))
abbrev st_law_number : Stmt := top 27
theorem sc_law_number : FnScope N_law_number [(Str.ofString "text")] (defScope st_law_number) := ⟨rfl, rfl, rfl, by decide +kernel, rfl, by decide +kernel, by decide +kernel⟩
theorem d_law_number (G : Wd P w K mg base cl T ad L) {f : Addr} (cdv : Value) (A : Around) (outer : List Env) (s : Shared) (H : Hp) (E : XK) (hr : Room L (A.deeper (envOfC (Str.ofString "_law_number") (defScope st_law_number) s.heap.objs.size f cdv))) :
    QB (cxOf (L2.CX P w) P w K mg base N_law_number (Str.ofString "_law_number") (defScope st_law_number) f cdv A outer s H E) cl (fun c d _ H => E c d H) (defBody st_law_number) (t_law_number T L) := by
  have S := sc_law_number
  have tk : Takes (cxOf (L2.CX P w) P w K mg base N_law_number (Str.ofString "_law_number") (defScope st_law_number) f cdv A outer s H E) (fun c d _ H => E c d H) := takes_of rfl rfl rfl rfl
  have pw : PassesOwn (model P w) (A.deeper (envOfC (Str.ofString "_law_number") (defScope st_law_number) s.heap.objs.size f cdv)) (envOfC (Str.ofString "_law_number") (defScope st_law_number) s.heap.objs.size f cdv) (cxOf (L2.CX P w) P w K mg base N_law_number (Str.ofString "_law_number") (defScope st_law_number) f cdv A outer s H E).xe := passes_of rfl
  exact (qb_cons (qs_if (t_w (w_or (t_eq hr.units (q_var (i := 0) rfl (Or.inl rfl) rfl rfl) q_str) (w_or (t_gt  (q_len rfl G.b_len (qa_cons (q_var (i := 0) rfl (Or.inl rfl) rfl rfl) qa_nil rfl) rfl rfl) q_int) (w_or1 (t_w (w_and (t_eq hr.units (q_ix hr.units (q_var (i := 0) rfl (Or.inl rfl) rfl rfl) q_int (fun _ _ => rfl)) q_str) (w_and1 (t_gt  (q_len rfl G.b_len (qa_cons (q_var (i := 0) rfl (Or.inl rfl) rfl rfl) qa_nil rfl) rfl rfl) q_int)))))))) (qb_one (qs_ret (q_neg q_int))) qb_nil)
    (qb_cons (qs_if (t_not (t_tru (q_all rfl rfl G.b_all (qa_cons (q_lc rfl S.nd (qi_seq (q_var (i := 0) rfl (Or.inl rfl) rfl rfl)) (blkOk_by (own := [((Str.ofString "figure"), 1)]) (N := N_law_number) (sc := defScope st_law_number) (by decide +kernel)) (fun _ _ _ _ _ => (pg_name (i := 1) S.nd rfl (Or.inl rfl) (Or.inr rfl))) (fun _ _ _ _ _ => qts_nil) (fun _ _ _ _ _ => (q_in (room66 hr) (q_var (i := 1) rfl (Or.inl rfl) rfl rfl) q_str rfl)) (fun _ => rfl)) qa_nil rfl) rfl rfl) (fun _ => rfl))) (qb_one (qs_ret (q_neg q_int))) qb_nil)
    (qb_one (qs_ret (q_int1 rfl G.b_int (qa_cons (q_var (i := 0) rfl (Or.inl rfl) rfl rfl) qa_nil rfl) rfl rfl)))))
abbrev st_law_good : Stmt := top 28
theorem sc_law_good : FnScope N_law_good [(Str.ofString "payload")] (defScope st_law_good) := ⟨rfl, rfl, rfl, by decide +kernel, rfl, by decide +kernel, by decide +kernel⟩
theorem d_law_good (G : Wd P w K mg base cl T ad L) {f : Addr} (cdv : Value) (A : Around) (outer : List Env) (s : Shared) (H : Hp) (E : XK) (hr : Room L (A.deeper (envOfC (Str.ofString "_law_good") (defScope st_law_good) s.heap.objs.size f cdv))) :
    QB (cxOf (L2.CX P w) P w K mg base N_law_good (Str.ofString "_law_good") (defScope st_law_good) f cdv A outer s H E) cl (fun c d _ H => E c d H) (defBody st_law_good) (t_law_good T L) := by
  have S := sc_law_good
  have tk : Takes (cxOf (L2.CX P w) P w K mg base N_law_good (Str.ofString "_law_good") (defScope st_law_good) f cdv A outer s H E) (fun c d _ H => E c d H) := takes_of rfl rfl rfl rfl
  have pw : PassesOwn (model P w) (A.deeper (envOfC (Str.ofString "_law_good") (defScope st_law_good) s.heap.objs.size f cdv)) (envOfC (Str.ofString "_law_good") (defScope st_law_good) s.heap.objs.size f cdv) (cxOf (L2.CX P w) P w K mg base N_law_good (Str.ofString "_law_good") (defScope st_law_good) f cdv A outer s H E).xe := passes_of rfl
  exact (qb_cons (qs_if (t_ne hr.units (q_sl (q_var (i := 0) rfl (Or.inl rfl) rfl rfl) (qo_some (q_neg q_int)) qo_none) q_str) (qb_one (qs_ret q_bl)) qb_nil)
    (qb_one (qs_ret (q_all rfl rfl G.b_all (qa_cons (q_lc rfl S.nd (qi_seq (q_var (i := 0) rfl (Or.inl rfl) rfl rfl)) (blkOk_by (own := [((Str.ofString "sign"), 1)]) (N := N_law_good) (sc := defScope st_law_good) (by decide +kernel)) (fun _ _ _ _ _ => (pg_name (i := 1) S.nd rfl (Or.inl rfl) (Or.inr rfl))) (fun _ _ _ _ _ => qts_nil) (fun _ _ _ _ _ => (q_or (q_eq hr.units (q_var (i := 1) rfl (Or.inl rfl) rfl rfl) q_str) (q_one (q_eq hr.units (q_call takes0 ⟨G.f__law_sign, hr⟩ rfl rfl (qa_cons (q_sub (q_sub (q_ord rfl G.b_ord (qa_cons (q_var (i := 1) rfl (Or.inl rfl) rfl rfl) qa_nil rfl) rfl rfl) q_int) (q_int1 rfl G.b_int (qa_cons (q_gt  (q_ord rfl G.b_ord (qa_cons (q_var (i := 1) rfl (Or.inl rfl) rfl rfl) qa_nil rfl) rfl rfl) q_int) qa_nil rfl) rfl rfl)) qa_nil rfl) rfl rfl) (q_var (i := 1) rfl (Or.inl rfl) rfl rfl))))) (fun _ => rfl)) qa_nil rfl) rfl rfl))))
abbrev st_law_read : Stmt := top 29
theorem sc_law_read : FnScope N_law_read [(Str.ofString "text")] (defScope st_law_read) := ⟨rfl, rfl, rfl, by decide +kernel, rfl, by decide +kernel, by decide +kernel⟩
theorem d_law_read (G : Wd P w K mg base cl T ad L) {f : Addr} (cdv : Value) (A : Around) (outer : List Env) (s : Shared) (H : Hp) (E : XK) (hr : Room L (A.deeper (envOfC (Str.ofString "_law_read") (defScope st_law_read) s.heap.objs.size f cdv))) :
    QB (cxOf (L2.CX P w) P w K mg base N_law_read (Str.ofString "_law_read") (defScope st_law_read) f cdv A outer s H E) cl (fun c d _ H => E c d H) (defBody st_law_read) (t_law_read T L) := by
  have S := sc_law_read
  have tk : Takes (cxOf (L2.CX P w) P w K mg base N_law_read (Str.ofString "_law_read") (defScope st_law_read) f cdv A outer s H E) (fun c d _ H => E c d H) := takes_of rfl rfl rfl rfl
  have pw : PassesOwn (model P w) (A.deeper (envOfC (Str.ofString "_law_read") (defScope st_law_read) s.heap.objs.size f cdv)) (envOfC (Str.ofString "_law_read") (defScope st_law_read) s.heap.objs.size f cdv) (cxOf (L2.CX P w) P w K mg base N_law_read (Str.ofString "_law_read") (defScope st_law_read) f cdv A outer s H E).xe := passes_of rfl
  exact (qb_cons (qs_asg (q_lst qa_nil) (qg_name (i := 1) S.nd rfl (Or.inl rfl) (Or.inl rfl)) rfl rfl rfl)
    (qb_cons (qs_asg (q_lst qa_nil) (qg_name (i := 2) S.nd rfl (Or.inl rfl) (Or.inl rfl)) rfl rfl rfl)
    (qb_cons (qs_asg q_int (qg_name (i := 3) S.nd rfl (Or.inl rfl) (Or.inl rfl)) rfl rfl rfl)
    (qb_one (qs_whl pw (t_tru q_bl (fun _ => rfl)) (qb_cons (qs_asg (q_ix hr.units (q_mt (T := "str") (id := "str.split") PySem.F.plainAttrs_str PySem.F.slot_str_split PySem.F.type_str_split mt_split up_split mono_split (q_sl (q_var (i := 0) rfl (Or.inl rfl) rfl rfl) (qo_some (q_var (i := 3) rfl (Or.inl rfl) rfl rfl)) qo_none) (qa_cons q_str qa_nil rfl) rfl rfl rfl rfl rfl) q_int (fun _ _ => rfl)) (qg_name (i := 4) S.nd rfl (Or.inl rfl) (Or.inl rfl)) rfl rfl rfl)
    (qb_cons (qs_asg (q_call tk ⟨G.f__law_number, hr⟩ rfl rfl (qa_cons (q_var (i := 4) rfl (Or.inl rfl) rfl rfl) qa_nil rfl) rfl rfl) (qg_name (i := 5) S.nd rfl (Or.inl rfl) (Or.inl rfl)) rfl rfl rfl)
    (qb_cons (qs_asg (q_add (q_add (q_var (i := 3) rfl (Or.inl rfl) rfl rfl) (q_len rfl G.b_len (qa_cons (q_var (i := 4) rfl (Or.inl rfl) rfl rfl) qa_nil rfl) rfl rfl)) q_int) (qg_name (i := 6) S.nd rfl (Or.inl rfl) (Or.inl rfl)) rfl rfl rfl)
    (qb_cons (qs_asg (q_sl (q_var (i := 0) rfl (Or.inl rfl) rfl rfl) (qo_some (q_var (i := 6) rfl (Or.inl rfl) rfl rfl)) (qo_some (q_add (q_var (i := 6) rfl (Or.inl rfl) rfl rfl) (q_max2 rfl rfl G.b_max (qa_cons q_int (qa_cons (q_var (i := 5) rfl (Or.inl rfl) rfl rfl) qa_nil rfl) rfl) rfl rfl)))) (qg_name (i := 7) S.nd rfl (Or.inl rfl) (Or.inl rfl)) rfl rfl rfl)
    (qb_cons (qs_asg (q_mt (T := "str") (id := "str.split") PySem.F.plainAttrs_str PySem.F.slot_str_split PySem.F.type_str_split mt_split up_split mono_split (q_sl (q_var (i := 0) rfl (Or.inl rfl) rfl rfl) (qo_some (q_add (q_var (i := 6) rfl (Or.inl rfl) rfl rfl) (q_max2 rfl rfl G.b_max (qa_cons q_int (qa_cons (q_var (i := 5) rfl (Or.inl rfl) rfl rfl) qa_nil rfl) rfl) rfl rfl))) qo_none) (qa_cons q_str qa_nil rfl) rfl rfl rfl rfl rfl) (qg_name (i := 8) S.nd rfl (Or.inl rfl) (Or.inl rfl)) rfl rfl rfl)
    (qb_cons (qs_if (t_w (w_or (t_lt hr.units (q_var (i := 5) rfl (Or.inl rfl) rfl rfl) q_int) (w_or (t_lt hr.units (q_len rfl G.b_len (qa_cons (q_var (i := 7) rfl (Or.inl rfl) rfl rfl) qa_nil rfl) rfl rfl) (q_var (i := 5) rfl (Or.inl rfl) rfl rfl)) (w_or (t_not (t_tru (q_call tk ⟨G.f__law_good, hr⟩ rfl rfl (qa_cons (q_var (i := 7) rfl (Or.inl rfl) rfl rfl) qa_nil rfl) rfl rfl) (fun _ => rfl))) (w_or1 (t_lt hr.units (q_len rfl G.b_len (qa_cons (q_var (i := 8) rfl (Or.inl rfl) rfl rfl) qa_nil rfl) rfl rfl) q_int)))))) (qb_one (qs_ret (q_tup (qa_cons (q_var (i := 1) rfl (Or.inl rfl) rfl rfl) (qa_cons (q_var (i := 2) rfl (Or.inl rfl) rfl rfl) qa_nil rfl) rfl)))) qb_nil)
    (qb_cons (qs_if (t_ne hr.units (q_call tk ⟨G.f__law_number, hr⟩ rfl rfl (qa_cons (q_ix hr.units (q_var (i := 8) rfl (Or.inl rfl) rfl rfl) q_int (fun _ _ => rfl)) qa_nil rfl) rfl rfl) (q_call tk ⟨G.f__law_check, hr⟩ rfl rfl (qa_cons (q_var (i := 7) rfl (Or.inl rfl) rfl rfl) qa_nil rfl) rfl rfl)) (qb_one (qs_ret (q_tup (qa_cons (q_var (i := 1) rfl (Or.inl rfl) rfl rfl) (qa_cons (q_var (i := 2) rfl (Or.inl rfl) rfl rfl) qa_nil rfl) rfl)))) qb_nil)
    (qb_cons (qs_exp (q_mt (T := "list") (id := "list.append") PySem.F.plainAttrs_list PySem.F.slot_list_append PySem.F.type_list_append mt_append up_append mono_append (q_var (i := 1) rfl (Or.inl rfl) rfl rfl) (qa_cons (q_mt (T := "str") (id := "str.split") PySem.F.plainAttrs_str PySem.F.slot_str_split PySem.F.type_str_split mt_split up_split mono_split (q_sl (q_var (i := 7) rfl (Or.inl rfl) rfl rfl) qo_none (qo_some (q_neg q_int))) (qa_cons q_str qa_nil rfl) rfl rfl rfl rfl rfl) qa_nil rfl) rfl rfl rfl rfl rfl) rfl)
    (qb_cons (qs_asg (q_add (q_add (q_add (q_var (i := 6) rfl (Or.inl rfl) rfl rfl) (q_var (i := 5) rfl (Or.inl rfl) rfl rfl)) (q_len rfl G.b_len (qa_cons (q_ix hr.units (q_var (i := 8) rfl (Or.inl rfl) rfl rfl) q_int (fun _ _ => rfl)) qa_nil rfl) rfl rfl)) q_int) (qg_name (i := 3) S.nd rfl (Or.inl rfl) (Or.inl rfl)) rfl rfl rfl)
    (qb_one (qs_exp (q_mt (T := "list") (id := "list.append") PySem.F.plainAttrs_list PySem.F.slot_list_append PySem.F.type_list_append mt_append up_append mono_append (q_var (i := 2) rfl (Or.inl rfl) rfl rfl) (qa_cons (q_var (i := 3) rfl (Or.inl rfl) rfl rfl) qa_nil rfl) rfl rfl rfl rfl rfl) rfl))))))))))))))))
abbrev st_law_spoilt : Stmt := top 30
theorem sc_law_spoilt : FnScope N_law_spoilt [(Str.ofString "text"), (Str.ofString "cell"), (Str.ofString "more")] (defScope st_law_spoilt) := ⟨rfl, rfl, rfl, by decide +kernel, rfl, by decide +kernel, by decide +kernel⟩
theorem d_law_spoilt (G : Wd P w K mg base cl T ad L) {f : Addr} (cdv : Value) (A : Around) (outer : List Env) (s : Shared) (H : Hp) (E : XK) (hr : Room L (A.deeper (envOfC (Str.ofString "_law_spoilt") (defScope st_law_spoilt) s.heap.objs.size f cdv))) :
    QB (cxOf (L2.CX P w) P w K mg base N_law_spoilt (Str.ofString "_law_spoilt") (defScope st_law_spoilt) f cdv A outer s H E) cl (fun c d _ H => E c d H) (defBody st_law_spoilt) (t_law_spoilt T L) := by
  have S := sc_law_spoilt
  have tk : Takes (cxOf (L2.CX P w) P w K mg base N_law_spoilt (Str.ofString "_law_spoilt") (defScope st_law_spoilt) f cdv A outer s H E) (fun c d _ H => E c d H) := takes_of rfl rfl rfl rfl
  have pw : PassesOwn (model P w) (A.deeper (envOfC (Str.ofString "_law_spoilt") (defScope st_law_spoilt) s.heap.objs.size f cdv)) (envOfC (Str.ofString "_law_spoilt") (defScope st_law_spoilt) s.heap.objs.size f cdv) (cxOf (L2.CX P w) P w K mg base N_law_spoilt (Str.ofString "_law_spoilt") (defScope st_law_spoilt) f cdv A outer s H E).xe := passes_of rfl
  exact (qb_cons (qs_asg (q_mod (q_div (q_var (i := 1) rfl (Or.inl rfl) rfl rfl) q_int) (q_add (q_len rfl G.b_len (qa_cons (q_var (i := 0) rfl (Or.inl rfl) rfl rfl) qa_nil rfl) rfl rfl) q_int)) (qg_name (i := 3) S.nd rfl (Or.inl rfl) (Or.inl rfl)) rfl rfl rfl)
    (qb_cons (qs_asg (q_ix hr.units q_str (q_mod (q_call tk ⟨G.f__law_mixed, hr⟩ rfl rfl (qa_cons (q_var (i := 2) rfl (Or.inl rfl) rfl rfl) (qa_cons q_int qa_nil rfl) rfl) rfl rfl) q_int) (fun _ _ => rfl)) (qg_name (i := 4) S.nd rfl (Or.inl rfl) (Or.inl rfl)) rfl rfl rfl)
    (qb_consJ (qs_if (t_eq hr.units (q_mod (q_call tk ⟨G.f__law_mixed, hr⟩ rfl rfl (qa_cons (q_var (i := 2) rfl (Or.inl rfl) rfl rfl) (qa_cons q_int qa_nil rfl) rfl) rfl rfl) q_int) q_int) (qb_one (qs_asg (q_call tk ⟨G.f__law_sign, hr⟩ rfl rfl (qa_cons (q_call tk ⟨G.f__law_mixed, hr⟩ rfl rfl (qa_cons (q_var (i := 2) rfl (Or.inl rfl) rfl rfl) (qa_cons q_int qa_nil rfl) rfl) rfl rfl) qa_nil rfl) rfl rfl) (qg_name (i := 4) S.nd rfl (Or.inl rfl) (Or.inl rfl)) rfl rfl rfl)) qb_nil)
    (qb_cons (qs_if (t_eq hr.units (q_mod (q_var (i := 1) rfl (Or.inl rfl) rfl rfl) q_int) q_int) (qb_one (qs_ret (q_sl (q_var (i := 0) rfl (Or.inl rfl) rfl rfl) qo_none (qo_some (q_var (i := 3) rfl (Or.inl rfl) rfl rfl))))) qb_nil)
    (qb_cons (qs_if (t_eq hr.units (q_mod (q_var (i := 1) rfl (Or.inl rfl) rfl rfl) q_int) q_int) (qb_one (qs_ret (q_add (q_add (q_sl (q_var (i := 0) rfl (Or.inl rfl) rfl rfl) qo_none (qo_some (q_var (i := 3) rfl (Or.inl rfl) rfl rfl))) (q_var (i := 4) rfl (Or.inl rfl) rfl rfl)) (q_sl (q_var (i := 0) rfl (Or.inl rfl) rfl rfl) (qo_some (q_var (i := 3) rfl (Or.inl rfl) rfl rfl)) qo_none)))) qb_nil)
    (qb_cons (qs_if (t_eq hr.units (q_mod (q_var (i := 1) rfl (Or.inl rfl) rfl rfl) q_int) q_int) (qb_one (qs_ret (q_add (q_add (q_sl (q_var (i := 0) rfl (Or.inl rfl) rfl rfl) qo_none (qo_some (q_var (i := 3) rfl (Or.inl rfl) rfl rfl))) (q_var (i := 4) rfl (Or.inl rfl) rfl rfl)) (q_sl (q_var (i := 0) rfl (Or.inl rfl) rfl rfl) (qo_some (q_add (q_var (i := 3) rfl (Or.inl rfl) rfl rfl) q_int)) qo_none)))) qb_nil)
    (qb_one (qs_ret (q_add (q_sl (q_var (i := 0) rfl (Or.inl rfl) rfl rfl) qo_none (qo_some (q_var (i := 3) rfl (Or.inl rfl) rfl rfl))) (q_sl (q_var (i := 0) rfl (Or.inl rfl) rfl rfl) (qo_some (q_add (q_var (i := 3) rfl (Or.inl rfl) rfl rfl) q_int)) qo_none))))))))))
abbrev st_law_of : Stmt := top 31
theorem sc_law_of : FnScope N_law_of [(Str.ofString "payload")] (defScope st_law_of) := ⟨rfl, rfl, rfl, by decide +kernel, rfl, by decide +kernel, by decide +kernel⟩
theorem d_law_of (G : Wd P w K mg base cl T ad L) {f : Addr} (cdv : Value) (A : Around) (outer : List Env) (s : Shared) (H : Hp) (E : XK) (hr : Room L (A.deeper (envOfC (Str.ofString "_law_of") (defScope st_law_of) s.heap.objs.size f cdv))) :
    QB (cxOf (L2.CX P w) P w K mg base N_law_of (Str.ofString "_law_of") (defScope st_law_of) f cdv A outer s H E) cl (fun c d _ H => E c d H) (defBody st_law_of) (t_law_of T L) := by
  have S := sc_law_of
  have tk : Takes (cxOf (L2.CX P w) P w K mg base N_law_of (Str.ofString "_law_of") (defScope st_law_of) f cdv A outer s H E) (fun c d _ H => E c d H) := takes_of rfl rfl rfl rfl
  have pw : PassesOwn (model P w) (A.deeper (envOfC (Str.ofString "_law_of") (defScope st_law_of) s.heap.objs.size f cdv)) (envOfC (Str.ofString "_law_of") (defScope st_law_of) s.heap.objs.size f cdv) (cxOf (L2.CX P w) P w K mg base N_law_of (Str.ofString "_law_of") (defScope st_law_of) f cdv A outer s H E).xe := passes_of rfl
  exact (qb_one (qs_ret (q_add (q_add (q_add (q_add (q_str1 rfl G.b_str (qa_cons (q_len rfl G.b_len (qa_cons (q_var (i := 0) rfl (Or.inl rfl) rfl rfl) qa_nil rfl) rfl rfl) qa_nil rfl) rfl rfl) q_str) (q_var (i := 0) rfl (Or.inl rfl) rfl rfl)) (q_str1 rfl G.b_str (qa_cons (q_call tk ⟨G.f__law_check, hr⟩ rfl rfl (qa_cons (q_var (i := 0) rfl (Or.inl rfl) rfl rfl) qa_nil rfl) rfl rfl) qa_nil rfl) rfl rfl)) q_str)))
abbrev st_law_odd : Stmt := top 32
theorem sc_law_odd : FnScope N_law_odd [(Str.ofString "text"), (Str.ofString "cell")] (defScope st_law_odd) := ⟨rfl, rfl, rfl, by decide +kernel, rfl, by decide +kernel, by decide +kernel⟩
theorem d_law_odd (G : Wd P w K mg base cl T ad L) {f : Addr} (cdv : Value) (A : Around) (outer : List Env) (s : Shared) (H : Hp) (E : XK) (hr : Room L (A.deeper (envOfC (Str.ofString "_law_odd") (defScope st_law_odd) s.heap.objs.size f cdv))) :
    QB (cxOf (L2.CX P w) P w K mg base N_law_odd (Str.ofString "_law_odd") (defScope st_law_odd) f cdv A outer s H E) cl (fun c d _ H => E c d H) (defBody st_law_odd) (t_law_odd T L) := by
  have S := sc_law_odd
  have tk : Takes (cxOf (L2.CX P w) P w K mg base N_law_odd (Str.ofString "_law_odd") (defScope st_law_odd) f cdv A outer s H E) (fun c d _ H => E c d H) := takes_of rfl rfl rfl rfl
  have pw : PassesOwn (model P w) (A.deeper (envOfC (Str.ofString "_law_odd") (defScope st_law_odd) s.heap.objs.size f cdv)) (envOfC (Str.ofString "_law_odd") (defScope st_law_odd) s.heap.objs.size f cdv) (cxOf (L2.CX P w) P w K mg base N_law_odd (Str.ofString "_law_odd") (defScope st_law_odd) f cdv A outer s H E).xe := passes_of rfl
  exact (qb_cons (qs_asg (q_lst (qa_cons q_str (qa_cons (q_call tk ⟨G.f__law_of, hr⟩ rfl rfl (qa_cons q_str qa_nil rfl) rfl rfl) (qa_cons (q_call tk ⟨G.f__law_of, hr⟩ rfl rfl (qa_cons q_str qa_nil rfl) rfl rfl) (qa_cons (q_call tk ⟨G.f__law_of, hr⟩ rfl rfl (qa_cons q_str qa_nil rfl) rfl rfl) (qa_cons (q_add (q_call tk ⟨G.f__law_of, hr⟩ rfl rfl (qa_cons q_str qa_nil rfl) rfl rfl) (q_call tk ⟨G.f__law_of, hr⟩ rfl rfl (qa_cons q_str qa_nil rfl) rfl rfl)) qa_nil rfl) rfl) rfl) rfl) rfl)) (qg_name (i := 2) S.nd rfl (Or.inl rfl) (Or.inl rfl)) rfl rfl rfl)
    (qb_one (qs_ret (q_lst (qa_cons (q_add (q_add (q_var (i := 0) rfl (Or.inl rfl) rfl rfl) (q_ix hr.units (q_var (i := 2) rfl (Or.inl rfl) rfl rfl) (q_mod (q_var (i := 1) rfl (Or.inl rfl) rfl rfl) q_int) (fun _ _ => rfl))) (q_call tk ⟨G.f__law_of, hr⟩ rfl rfl (qa_cons q_str qa_nil rfl) rfl rfl)) (qa_cons (q_add (q_ix hr.units (q_var (i := 2) rfl (Or.inl rfl) rfl rfl) (q_mod (q_div (q_var (i := 1) rfl (Or.inl rfl) rfl rfl) q_int) q_int) (fun _ _ => rfl)) (q_var (i := 0) rfl (Or.inl rfl) rfl rfl)) qa_nil rfl) rfl)))))
abbrev st_law : Stmt := top 33
theorem sc_law : FnScope N_law [(Str.ofString "script")] (defScope st_law) := ⟨rfl, rfl, rfl, by decide +kernel, rfl, by decide +kernel, by decide +kernel⟩
theorem d_law (G : Wd P w K mg base cl T ad L) {f : Addr} (cdv : Value) (A : Around) (outer : List Env) (s : Shared) (H : Hp) (E : XK) (hr : Room L (A.deeper (envOfC (Str.ofString "law") (defScope st_law) s.heap.objs.size f cdv))) :
    QB (cxOf (L2.CX P w) P w K mg base N_law (Str.ofString "law") (defScope st_law) f cdv A outer s H E) cl (fun c d _ H => E c d H) (defBody st_law) (t_law T L) := by
  have S := sc_law
  have tk : Takes (cxOf (L2.CX P w) P w K mg base N_law (Str.ofString "law") (defScope st_law) f cdv A outer s H E) (fun c d _ H => E c d H) := takes_of rfl rfl rfl rfl
  have pw : PassesOwn (model P w) (A.deeper (envOfC (Str.ofString "law") (defScope st_law) s.heap.objs.size f cdv)) (envOfC (Str.ofString "law") (defScope st_law) s.heap.objs.size f cdv) (cxOf (L2.CX P w) P w K mg base N_law (Str.ofString "law") (defScope st_law) f cdv A outer s H E).xe := passes_of rfl
  exact (qb_cons (qs_asg (q_call tk ⟨G.f__law_lists, hr⟩ rfl rfl (qa_cons (q_sl (q_var (i := 0) rfl (Or.inl rfl) rfl rfl) (qo_some q_int) (qo_some q_int)) qa_nil rfl) rfl rfl) (qg_name (i := 1) S.nd rfl (Or.inl rfl) (Or.inl rfl)) rfl rfl rfl)
    (qb_cons (qs_asg q_str (qg_name (i := 2) S.nd rfl (Or.inl rfl) (Or.inl rfl)) rfl rfl rfl)
    (qb_cons (qs_for pw rfl (qi_seq (q_var (i := 1) rfl (Or.inl rfl) rfl rfl)) (qg_name (i := 3) S.nd rfl (Or.inl rfl) (Or.inl rfl)) (qb_cons (qs_asg (q_list rfl G.b_list (qa_cons (q_var (i := 3) rfl (Or.inl rfl) rfl rfl) qa_nil rfl) rfl rfl) (qg_name (i := 4) S.nd rfl (Or.inl rfl) (Or.inl rfl)) rfl rfl rfl)
    (qb_cons (qs_asg (q_call tk ⟨G.f_record, hr⟩ rfl rfl (qa_cons (q_var (i := 4) rfl (Or.inl rfl) rfl rfl) qa_nil rfl) rfl rfl) (qg_name (i := 5) S.nd rfl (Or.inl rfl) (Or.inl rfl)) rfl rfl rfl)
    (qb_cons (qs_asg (q_mt (T := "str") (id := "str.join") PySem.F.plainAttrs_str PySem.F.slot_str_join PySem.F.type_str_join mt_join up_join mono_join q_str (qa_cons (q_lc rfl S.nd (qi_seq (q_var (i := 3) rfl (Or.inl rfl) rfl rfl)) (blkOk_by (own := [((Str.ofString "one"), 11)]) (N := N_law) (sc := defScope st_law) (by decide +kernel)) (fun _ _ _ _ _ => (pg_name (i := 11) S.nd rfl (Or.inl rfl) (Or.inr rfl))) (fun _ _ _ _ _ => qts_nil) (fun _ _ _ _ _ => (q_add (q_var (i := 11) rfl (Or.inl rfl) rfl rfl) q_str)) (fun _ => rfl)) qa_nil rfl) rfl rfl rfl rfl rfl) (qg_name (i := 6) S.nd rfl (Or.inl rfl) (Or.inl rfl)) rfl rfl rfl)
    (qb_cons (qs_if (t_w (w_or (t_ne hr.units (q_var (i := 5) rfl (Or.inl rfl) rfl rfl) (q_call tk ⟨G.f__law_record, hr⟩ rfl rfl (qa_cons (q_var (i := 3) rfl (Or.inl rfl) rfl rfl) qa_nil rfl) rfl rfl)) (w_or (t_ne hr.units (q_var (i := 4) rfl (Or.inl rfl) rfl rfl) (q_var (i := 3) rfl (Or.inl rfl) rfl rfl)) (w_or1 (t_ne hr.units (q_call tk ⟨G.f_check_of, hr⟩ rfl rfl (qa_cons (q_var (i := 6) rfl (Or.inl rfl) rfl rfl) qa_nil rfl) rfl rfl) (q_call tk ⟨G.f__law_check, hr⟩ rfl rfl (qa_cons (q_var (i := 6) rfl (Or.inl rfl) rfl rfl) qa_nil rfl) rfl rfl)))))) (qb_one (qs_ret q_bl)) qb_nil)
    (qb_one (qs_asg (q_add (q_var (i := 2) rfl (Or.inl rfl) rfl rfl) (q_var (i := 5) rfl (Or.inl rfl) rfl rfl)) (qg_name (i := 2) S.nd rfl (Or.inl rfl) (Or.inl rfl)) rfl rfl rfl)))))) (fun _ => rfl))
    (qb_cons (qs_asg (q_call tk ⟨G.f__law_spoilt, hr⟩ rfl rfl (qa_cons (q_var (i := 2) rfl (Or.inl rfl) rfl rfl) (qa_cons (q_call tk ⟨G.f__law_cell_at, hr⟩ rfl rfl (qa_cons (q_var (i := 0) rfl (Or.inl rfl) rfl rfl) (qa_cons q_int qa_nil rfl) rfl) rfl rfl) (qa_cons (q_call tk ⟨G.f__law_cell_at, hr⟩ rfl rfl (qa_cons (q_var (i := 0) rfl (Or.inl rfl) rfl rfl) (qa_cons q_int qa_nil rfl) rfl) rfl rfl) qa_nil rfl) rfl) rfl) rfl rfl) (qg_name (i := 7) S.nd rfl (Or.inl rfl) (Or.inl rfl)) rfl rfl rfl)
    (qb_cons (qs_asg (q_call tk ⟨G.f__law_odd, hr⟩ rfl rfl (qa_cons (q_var (i := 2) rfl (Or.inl rfl) rfl rfl) (qa_cons (q_call tk ⟨G.f__law_cell_at, hr⟩ rfl rfl (qa_cons (q_var (i := 0) rfl (Or.inl rfl) rfl rfl) (qa_cons q_int qa_nil rfl) rfl) rfl rfl) qa_nil rfl) rfl) rfl rfl) (qg_name (i := 8) S.nd rfl (Or.inl rfl) (Or.inl rfl)) rfl rfl rfl)
    (qb_cons (qs_for pw rfl (qi_seq (q_add (q_lst (qa_cons (q_var (i := 2) rfl (Or.inl rfl) rfl rfl) (qa_cons (q_var (i := 7) rfl (Or.inl rfl) rfl rfl) (qa_cons q_str (qa_cons (q_add (q_var (i := 2) rfl (Or.inl rfl) rfl rfl) q_str) (qa_cons (q_add (q_var (i := 7) rfl (Or.inl rfl) rfl rfl) (q_sl (q_var (i := 7) rfl (Or.inl rfl) rfl rfl) qo_none (qo_some q_int))) qa_nil rfl) rfl) rfl) rfl) rfl)) (q_var (i := 8) rfl (Or.inl rfl) rfl rfl))) (qg_name (i := 9) S.nd rfl (Or.inl rfl) (Or.inl rfl)) (qb_cons (qs_asg (q_call tk ⟨G.f_records, hr⟩ rfl rfl (qa_cons (q_var (i := 9) rfl (Or.inl rfl) rfl rfl) qa_nil rfl) rfl rfl) (qg_name (i := 10) S.nd rfl (Or.inl rfl) (Or.inl rfl)) rfl rfl rfl)
    (qb_cons (qs_if (t_w (w_or (t_not (t_tru (q_isi rfl G.b_isinstance (qa_cons (q_var (i := 10) rfl (Or.inl rfl) rfl rfl) (qa_cons (q_ty (by decide +kernel) (by decide) rfl rfl G.b_tuple) qa_nil rfl) rfl) rfl rfl) (fun _ => rfl))) (w_or1 (t_ne hr.units (q_var (i := 10) rfl (Or.inl rfl) rfl rfl) (q_call tk ⟨G.f__law_read, hr⟩ rfl rfl (qa_cons (q_var (i := 9) rfl (Or.inl rfl) rfl rfl) qa_nil rfl) rfl rfl))))) (qb_one (qs_ret q_bl)) qb_nil)
    (qb_cons (qs_if (t_w (w_and (t_notin (room66 hr) q_str (q_var (i := 9) rfl (Or.inl rfl) rfl rfl) rfl) (w_and1 (t_ne hr.units (q_call tk ⟨G.f_check_of, hr⟩ rfl rfl (qa_cons (q_var (i := 9) rfl (Or.inl rfl) rfl rfl) qa_nil rfl) rfl rfl) (q_call tk ⟨G.f__law_check, hr⟩ rfl rfl (qa_cons (q_var (i := 9) rfl (Or.inl rfl) rfl rfl) qa_nil rfl) rfl rfl))))) (qb_one (qs_ret q_bl)) qb_nil)
    (qb_one (qs_for pw rfl (qi_seq (q_ix hr.units (q_var (i := 10) rfl (Or.inl rfl) rfl rfl) q_int (fun _ _ => rfl))) (qg_name (i := 3) S.nd rfl (Or.inl rfl) (Or.inl rfl)) (qb_cons (qs_exp (q_mt (T := "list") (id := "list.append") PySem.F.plainAttrs_list PySem.F.slot_list_append PySem.F.type_list_append mt_append up_append mono_append (q_var (i := 3) rfl (Or.inl rfl) rfl rfl) (qa_cons q_int qa_nil rfl) rfl rfl rfl rfl rfl) rfl)
    (qb_cons (qs_if (t_ne hr.units (q_len rfl G.b_len (qa_cons (q_lc rfl S.nd (qi_seq (q_ix hr.units (q_var (i := 10) rfl (Or.inl rfl) rfl rfl) q_int (fun _ _ => rfl))) (blkOk_by (own := [((Str.ofString "other"), 12)]) (N := N_law) (sc := defScope st_law) (by decide +kernel)) (fun _ _ _ _ _ => (pg_name (i := 12) S.nd rfl (Or.inl rfl) (Or.inr rfl))) (fun _ _ _ _ _ => qts_one (t_eq hr.units (q_sl (q_var (i := 12) rfl (Or.inl rfl) rfl rfl) (qo_some (q_neg q_int)) qo_none) (q_lst (qa_cons q_int qa_nil rfl)))) (fun _ _ _ _ _ => (q_var (i := 12) rfl (Or.inl rfl) rfl rfl)) (fun _ => rfl)) qa_nil rfl) rfl rfl) q_int) (qb_one (qs_ret q_bl)) qb_nil)
    (qb_one (qs_exp (q_mt0 (T := "list") (id := "list.pop") PySem.F.plainAttrs_list PySem.F.slot_list_pop PySem.F.type_list_pop mt_pop up_pop mono_pop (q_var (i := 3) rfl (Or.inl rfl) rfl rfl) rfl rfl) rfl)))) (fun _ => rfl)))))) (fun _ => rfl))
    (qb_one (qs_ret (q_and (q_eq hr.units (q_ix hr.units (q_call tk ⟨G.f_records, hr⟩ rfl rfl (qa_cons (q_var (i := 2) rfl (Or.inl rfl) rfl rfl) qa_nil rfl) rfl rfl) q_int (fun _ _ => rfl)) (q_var (i := 1) rfl (Or.inl rfl) rfl rfl)) (q_one (q_eq hr.units (q_call tk ⟨G.f_check_of, hr⟩ rfl rfl (qa_cons q_str qa_nil rfl) rfl rfl) q_int)))))))))))
end
/-! the law, from its parts -/
theorem allc {α : Type} {P : α → Prop} {a : α} {l : List α} (h : P a) (t : ∀ x ∈ l, P x) : ∀ x ∈ a :: l, P x := fun x hx => (List.mem_cons.mp hx).elim (fun e => e ▸ h) (t x)
theorem alln {α : Type} {P : α → Prop} : ∀ x ∈ ([] : List α), P x := fun _ h => nomatch h
noncomputable def tab : Nat → FSpec := fun i => match i with
  | 14 => sp_tcodes
  | 15 => sp_codes
  | 17 => sp_seal
  | 146 => sp_check
  | 155 => sp_record
  | 147 => sp_numat
  | 148 => sp_ispay
  | 149 => sp_recat
  | 159 => sp_records
  | 9 => sp_cell
  | 150 => sp_mixed
  | 151 => sp_sign
  | 154 => sp_lists
  | 161 => sp_lsealed
  | 152 => sp_lcheck
  | 156 => sp_lrecord
  | 645 => sp_lnum
  | 646 => sp_lgood
  | 160 => sp_lread
  | 157 => sp_spoilt
  | 153 => sp_lof
  | 158 => sp_odd
  | _ => sp_law
def adT (a14 a15 a17 a146 a155 a147 a148 a149 a159 a9 a150 a151 a154 a161 a152 a156 a645 a646 a160 a157 a153 a158 : Addr) : Nat → Addr := fun i => match i with
  | 14 => a14
  | 15 => a15
  | 17 => a17
  | 146 => a146
  | 155 => a155
  | 147 => a147
  | 148 => a148
  | 149 => a149
  | 159 => a159
  | 9 => a9
  | 150 => a150
  | 151 => a151
  | 154 => a154
  | 161 => a161
  | 152 => a152
  | 156 => a156
  | 645 => a645
  | 646 => a646
  | 160 => a160
  | 157 => a157
  | 153 => a153
  | 158 => a158
  | _ => 0
abbrev TT : Tb := fun i S => S = tab i
theorem lenF_text_codes : ∀ (al : sp_tcodes.al) (ds : List D) (m : Mp), sp_tcodes.pre al ds m → ds.length = ([(Str.ofString "text")] : List Str).length := fun al ds m h => by
  first | (have h := (h : _ ∧ _).1; rw [h]; rfl) | (have h : ds = _ := h; rw [h]; rfl) | (obtain ⟨⟨h, _⟩, _⟩ := h; rw [h]; rfl) | (rcases al with a | d <;> (obtain ⟨h, _⟩ := h; rw [h]; rfl)) | (rcases al with ⟨a | d, q⟩ <;> (obtain ⟨_, h, _⟩ := h; rw [h]; rfl)) | exact (h : False).elim | (rcases al with _ | ⟨a, d⟩ <;> first | (have h : ds = _ := h; rw [h]; rfl) | (have h := (h : _ ∧ _).1; rw [h]; rfl))
theorem lenF_codes_of : ∀ (al : sp_codes.al) (ds : List D) (m : Mp), sp_codes.pre al ds m → ds.length = ([(Str.ofString "thing")] : List Str).length := fun al ds m h => by
  first | (have h := (h : _ ∧ _).1; rw [h]; rfl) | (have h : ds = _ := h; rw [h]; rfl) | (obtain ⟨⟨h, _⟩, _⟩ := h; rw [h]; rfl) | (rcases al with a | d <;> (obtain ⟨h, _⟩ := h; rw [h]; rfl)) | (rcases al with ⟨a | d, q⟩ <;> (obtain ⟨_, h, _⟩ := h; rw [h]; rfl)) | exact (h : False).elim | (rcases al with _ | ⟨a, d⟩ <;> first | (have h : ds = _ := h; rw [h]; rfl) | (have h := (h : _ ∧ _).1; rw [h]; rfl))
theorem lenF_seal : ∀ (al : sp_seal.al) (ds : List D) (m : Mp), sp_seal.pre al ds m → ds.length = ([(Str.ofString "thing")] : List Str).length := fun al ds m h => by
  first | (have h := (h : _ ∧ _).1; rw [h]; rfl) | (have h : ds = _ := h; rw [h]; rfl) | (obtain ⟨⟨h, _⟩, _⟩ := h; rw [h]; rfl) | (rcases al with a | d <;> (obtain ⟨h, _⟩ := h; rw [h]; rfl)) | (rcases al with ⟨a | d, q⟩ <;> (obtain ⟨_, h, _⟩ := h; rw [h]; rfl)) | exact (h : False).elim | (rcases al with _ | ⟨a, d⟩ <;> first | (have h : ds = _ := h; rw [h]; rfl) | (have h := (h : _ ∧ _).1; rw [h]; rfl))
theorem lenF_check_of : ∀ (al : sp_check.al) (ds : List D) (m : Mp), sp_check.pre al ds m → ds.length = ([(Str.ofString "text")] : List Str).length := fun al ds m h => by
  first | (have h := (h : _ ∧ _).1; rw [h]; rfl) | (have h : ds = _ := h; rw [h]; rfl) | (obtain ⟨⟨h, _⟩, _⟩ := h; rw [h]; rfl) | (rcases al with a | d <;> (obtain ⟨h, _⟩ := h; rw [h]; rfl)) | (rcases al with ⟨a | d, q⟩ <;> (obtain ⟨_, h, _⟩ := h; rw [h]; rfl)) | exact (h : False).elim | (rcases al with _ | ⟨a, d⟩ <;> first | (have h : ds = _ := h; rw [h]; rfl) | (have h := (h : _ ∧ _).1; rw [h]; rfl))
theorem lenF_record : ∀ (al : sp_record.al) (ds : List D) (m : Mp), sp_record.pre al ds m → ds.length = ([(Str.ofString "texts")] : List Str).length := fun al ds m h => by
  first | (have h := (h : _ ∧ _).1; rw [h]; rfl) | (have h : ds = _ := h; rw [h]; rfl) | (obtain ⟨⟨h, _⟩, _⟩ := h; rw [h]; rfl) | (rcases al with a | d <;> (obtain ⟨h, _⟩ := h; rw [h]; rfl)) | (rcases al with ⟨a | d, q⟩ <;> (obtain ⟨_, h, _⟩ := h; rw [h]; rfl)) | exact (h : False).elim | (rcases al with _ | ⟨a, d⟩ <;> first | (have h : ds = _ := h; rw [h]; rfl) | (have h := (h : _ ∧ _).1; rw [h]; rfl))
theorem lenF_number_at : ∀ (al : sp_numat.al) (ds : List D) (m : Mp), sp_numat.pre al ds m → ds.length = ([(Str.ofString "text"), (Str.ofString "at"), (Str.ofString "mark")] : List Str).length := fun al ds m h => by
  first | (have h := (h : _ ∧ _).1; rw [h]; rfl) | (have h : ds = _ := h; rw [h]; rfl) | (obtain ⟨⟨h, _⟩, _⟩ := h; rw [h]; rfl) | (rcases al with a | d <;> (obtain ⟨h, _⟩ := h; rw [h]; rfl)) | (rcases al with ⟨a | d, q⟩ <;> (obtain ⟨_, h, _⟩ := h; rw [h]; rfl)) | exact (h : False).elim | (rcases al with _ | ⟨a, d⟩ <;> first | (have h : ds = _ := h; rw [h]; rfl) | (have h := (h : _ ∧ _).1; rw [h]; rfl))
theorem lenF_is_payload : ∀ (al : sp_ispay.al) (ds : List D) (m : Mp), sp_ispay.pre al ds m → ds.length = ([(Str.ofString "text")] : List Str).length := fun al ds m h => by
  first | (have h := (h : _ ∧ _).1; rw [h]; rfl) | (have h : ds = _ := h; rw [h]; rfl) | (obtain ⟨⟨h, _⟩, _⟩ := h; rw [h]; rfl) | (rcases al with a | d <;> (obtain ⟨h, _⟩ := h; rw [h]; rfl)) | (rcases al with ⟨a | d, q⟩ <;> (obtain ⟨_, h, _⟩ := h; rw [h]; rfl)) | exact (h : False).elim | (rcases al with _ | ⟨a, d⟩ <;> first | (have h : ds = _ := h; rw [h]; rfl) | (have h := (h : _ ∧ _).1; rw [h]; rfl))
theorem lenF_record_at : ∀ (al : sp_recat.al) (ds : List D) (m : Mp), sp_recat.pre al ds m → ds.length = ([(Str.ofString "text"), (Str.ofString "at")] : List Str).length := fun al ds m h => by
  first | (have h := (h : _ ∧ _).1; rw [h]; rfl) | (have h : ds = _ := h; rw [h]; rfl) | (obtain ⟨⟨h, _⟩, _⟩ := h; rw [h]; rfl) | (rcases al with a | d <;> (obtain ⟨h, _⟩ := h; rw [h]; rfl)) | (rcases al with ⟨a | d, q⟩ <;> (obtain ⟨_, h, _⟩ := h; rw [h]; rfl)) | exact (h : False).elim | (rcases al with _ | ⟨a, d⟩ <;> first | (have h : ds = _ := h; rw [h]; rfl) | (have h := (h : _ ∧ _).1; rw [h]; rfl))
theorem lenF_records : ∀ (al : sp_records.al) (ds : List D) (m : Mp), sp_records.pre al ds m → ds.length = ([(Str.ofString "text")] : List Str).length := fun al ds m h => by
  first | (have h := (h : _ ∧ _).1; rw [h]; rfl) | (have h : ds = _ := h; rw [h]; rfl) | (obtain ⟨⟨h, _⟩, _⟩ := h; rw [h]; rfl) | (rcases al with a | d <;> (obtain ⟨h, _⟩ := h; rw [h]; rfl)) | (rcases al with ⟨a | d, q⟩ <;> (obtain ⟨_, h, _⟩ := h; rw [h]; rfl)) | exact (h : False).elim | (rcases al with _ | ⟨a, d⟩ <;> first | (have h : ds = _ := h; rw [h]; rfl) | (have h := (h : _ ∧ _).1; rw [h]; rfl))
theorem lenF_law_cell_at : ∀ (al : sp_cell.al) (ds : List D) (m : Mp), sp_cell.pre al ds m → ds.length = ([(Str.ofString "script"), (Str.ofString "k")] : List Str).length := fun al ds m h => by
  first | (have h := (h : _ ∧ _).1; rw [h]; rfl) | (have h : ds = _ := h; rw [h]; rfl) | (obtain ⟨⟨h, _⟩, _⟩ := h; rw [h]; rfl) | (rcases al with a | d <;> (obtain ⟨h, _⟩ := h; rw [h]; rfl)) | (rcases al with ⟨a | d, q⟩ <;> (obtain ⟨_, h, _⟩ := h; rw [h]; rfl)) | exact (h : False).elim | (rcases al with _ | ⟨a, d⟩ <;> first | (have h : ds = _ := h; rw [h]; rfl) | (have h := (h : _ ∧ _).1; rw [h]; rfl))
theorem lenF_law_mixed : ∀ (al : sp_mixed.al) (ds : List D) (m : Mp), sp_mixed.pre al ds m → ds.length = ([(Str.ofString "cell"), (Str.ofString "k")] : List Str).length := fun al ds m h => by
  first | (have h := (h : _ ∧ _).1; rw [h]; rfl) | (have h : ds = _ := h; rw [h]; rfl) | (obtain ⟨⟨h, _⟩, _⟩ := h; rw [h]; rfl) | (rcases al with a | d <;> (obtain ⟨h, _⟩ := h; rw [h]; rfl)) | (rcases al with ⟨a | d, q⟩ <;> (obtain ⟨_, h, _⟩ := h; rw [h]; rfl)) | exact (h : False).elim | (rcases al with _ | ⟨a, d⟩ <;> first | (have h : ds = _ := h; rw [h]; rfl) | (have h := (h : _ ∧ _).1; rw [h]; rfl))
theorem lenF_law_sign : ∀ (al : sp_sign.al) (ds : List D) (m : Mp), sp_sign.pre al ds m → ds.length = ([(Str.ofString "number")] : List Str).length := fun al ds m h => by
  first | (have h := (h : _ ∧ _).1; rw [h]; rfl) | (have h : ds = _ := h; rw [h]; rfl) | (obtain ⟨⟨h, _⟩, _⟩ := h; rw [h]; rfl) | (rcases al with a | d <;> (obtain ⟨h, _⟩ := h; rw [h]; rfl)) | (rcases al with ⟨a | d, q⟩ <;> (obtain ⟨_, h, _⟩ := h; rw [h]; rfl)) | exact (h : False).elim | (rcases al with _ | ⟨a, d⟩ <;> first | (have h : ds = _ := h; rw [h]; rfl) | (have h := (h : _ ∧ _).1; rw [h]; rfl))
theorem lenF_law_lists : ∀ (al : sp_lists.al) (ds : List D) (m : Mp), sp_lists.pre al ds m → ds.length = ([(Str.ofString "cells")] : List Str).length := fun al ds m h => by
  first | (have h := (h : _ ∧ _).1; rw [h]; rfl) | (have h : ds = _ := h; rw [h]; rfl) | (obtain ⟨⟨h, _⟩, _⟩ := h; rw [h]; rfl) | (rcases al with a | d <;> (obtain ⟨h, _⟩ := h; rw [h]; rfl)) | (rcases al with ⟨a | d, q⟩ <;> (obtain ⟨_, h, _⟩ := h; rw [h]; rfl)) | exact (h : False).elim | (rcases al with _ | ⟨a, d⟩ <;> first | (have h : ds = _ := h; rw [h]; rfl) | (have h := (h : _ ∧ _).1; rw [h]; rfl))
theorem lenF_law_sealed : ∀ (al : sp_lsealed.al) (ds : List D) (m : Mp), sp_lsealed.pre al ds m → ds.length = ([(Str.ofString "number"), (Str.ofString "piece")] : List Str).length := fun al ds m h => by
  first | (have h := (h : _ ∧ _).1; rw [h]; rfl) | (have h : ds = _ := h; rw [h]; rfl) | (obtain ⟨⟨h, _⟩, _⟩ := h; rw [h]; rfl) | (rcases al with a | d <;> (obtain ⟨h, _⟩ := h; rw [h]; rfl)) | (rcases al with ⟨a | d, q⟩ <;> (obtain ⟨_, h, _⟩ := h; rw [h]; rfl)) | exact (h : False).elim | (rcases al with _ | ⟨a, d⟩ <;> first | (have h : ds = _ := h; rw [h]; rfl) | (have h := (h : _ ∧ _).1; rw [h]; rfl))
theorem lenF_law_check : ∀ (al : sp_lcheck.al) (ds : List D) (m : Mp), sp_lcheck.pre al ds m → ds.length = ([(Str.ofString "payload")] : List Str).length := fun al ds m h => by
  first | (have h := (h : _ ∧ _).1; rw [h]; rfl) | (have h : ds = _ := h; rw [h]; rfl) | (obtain ⟨⟨h, _⟩, _⟩ := h; rw [h]; rfl) | (rcases al with a | d <;> (obtain ⟨h, _⟩ := h; rw [h]; rfl)) | (rcases al with ⟨a | d, q⟩ <;> (obtain ⟨_, h, _⟩ := h; rw [h]; rfl)) | exact (h : False).elim | (rcases al with _ | ⟨a, d⟩ <;> first | (have h : ds = _ := h; rw [h]; rfl) | (have h := (h : _ ∧ _).1; rw [h]; rfl))
theorem lenF_law_record : ∀ (al : sp_lrecord.al) (ds : List D) (m : Mp), sp_lrecord.pre al ds m → ds.length = ([(Str.ofString "texts")] : List Str).length := fun al ds m h => by
  first | (have h := (h : _ ∧ _).1; rw [h]; rfl) | (have h : ds = _ := h; rw [h]; rfl) | (obtain ⟨⟨h, _⟩, _⟩ := h; rw [h]; rfl) | (rcases al with a | d <;> (obtain ⟨h, _⟩ := h; rw [h]; rfl)) | (rcases al with ⟨a | d, q⟩ <;> (obtain ⟨_, h, _⟩ := h; rw [h]; rfl)) | exact (h : False).elim | (rcases al with _ | ⟨a, d⟩ <;> first | (have h : ds = _ := h; rw [h]; rfl) | (have h := (h : _ ∧ _).1; rw [h]; rfl))
theorem lenF_law_number : ∀ (al : sp_lnum.al) (ds : List D) (m : Mp), sp_lnum.pre al ds m → ds.length = ([(Str.ofString "text")] : List Str).length := fun al ds m h => by
  first | (have h := (h : _ ∧ _).1; rw [h]; rfl) | (have h : ds = _ := h; rw [h]; rfl) | (obtain ⟨⟨h, _⟩, _⟩ := h; rw [h]; rfl) | (rcases al with a | d <;> (obtain ⟨h, _⟩ := h; rw [h]; rfl)) | (rcases al with ⟨a | d, q⟩ <;> (obtain ⟨_, h, _⟩ := h; rw [h]; rfl)) | exact (h : False).elim | (rcases al with _ | ⟨a, d⟩ <;> first | (have h : ds = _ := h; rw [h]; rfl) | (have h := (h : _ ∧ _).1; rw [h]; rfl))
theorem lenF_law_good : ∀ (al : sp_lgood.al) (ds : List D) (m : Mp), sp_lgood.pre al ds m → ds.length = ([(Str.ofString "payload")] : List Str).length := fun al ds m h => by
  first | (have h := (h : _ ∧ _).1; rw [h]; rfl) | (have h : ds = _ := h; rw [h]; rfl) | (obtain ⟨⟨h, _⟩, _⟩ := h; rw [h]; rfl) | (rcases al with a | d <;> (obtain ⟨h, _⟩ := h; rw [h]; rfl)) | (rcases al with ⟨a | d, q⟩ <;> (obtain ⟨_, h, _⟩ := h; rw [h]; rfl)) | exact (h : False).elim | (rcases al with _ | ⟨a, d⟩ <;> first | (have h : ds = _ := h; rw [h]; rfl) | (have h := (h : _ ∧ _).1; rw [h]; rfl))
theorem lenF_law_read : ∀ (al : sp_lread.al) (ds : List D) (m : Mp), sp_lread.pre al ds m → ds.length = ([(Str.ofString "text")] : List Str).length := fun al ds m h => by
  first | (have h := (h : _ ∧ _).1; rw [h]; rfl) | (have h : ds = _ := h; rw [h]; rfl) | (obtain ⟨⟨h, _⟩, _⟩ := h; rw [h]; rfl) | (rcases al with a | d <;> (obtain ⟨h, _⟩ := h; rw [h]; rfl)) | (rcases al with ⟨a | d, q⟩ <;> (obtain ⟨_, h, _⟩ := h; rw [h]; rfl)) | exact (h : False).elim | (rcases al with _ | ⟨a, d⟩ <;> first | (have h : ds = _ := h; rw [h]; rfl) | (have h := (h : _ ∧ _).1; rw [h]; rfl))
theorem lenF_law_spoilt : ∀ (al : sp_spoilt.al) (ds : List D) (m : Mp), sp_spoilt.pre al ds m → ds.length = ([(Str.ofString "text"), (Str.ofString "cell"), (Str.ofString "more")] : List Str).length := fun al ds m h => by
  first | (have h := (h : _ ∧ _).1; rw [h]; rfl) | (have h : ds = _ := h; rw [h]; rfl) | (obtain ⟨⟨h, _⟩, _⟩ := h; rw [h]; rfl) | (rcases al with a | d <;> (obtain ⟨h, _⟩ := h; rw [h]; rfl)) | (rcases al with ⟨a | d, q⟩ <;> (obtain ⟨_, h, _⟩ := h; rw [h]; rfl)) | exact (h : False).elim | (rcases al with _ | ⟨a, d⟩ <;> first | (have h : ds = _ := h; rw [h]; rfl) | (have h := (h : _ ∧ _).1; rw [h]; rfl))
theorem lenF_law_of : ∀ (al : sp_lof.al) (ds : List D) (m : Mp), sp_lof.pre al ds m → ds.length = ([(Str.ofString "payload")] : List Str).length := fun al ds m h => by
  first | (have h := (h : _ ∧ _).1; rw [h]; rfl) | (have h : ds = _ := h; rw [h]; rfl) | (obtain ⟨⟨h, _⟩, _⟩ := h; rw [h]; rfl) | (rcases al with a | d <;> (obtain ⟨h, _⟩ := h; rw [h]; rfl)) | (rcases al with ⟨a | d, q⟩ <;> (obtain ⟨_, h, _⟩ := h; rw [h]; rfl)) | exact (h : False).elim | (rcases al with _ | ⟨a, d⟩ <;> first | (have h : ds = _ := h; rw [h]; rfl) | (have h := (h : _ ∧ _).1; rw [h]; rfl))
theorem lenF_law_odd : ∀ (al : sp_odd.al) (ds : List D) (m : Mp), sp_odd.pre al ds m → ds.length = ([(Str.ofString "text"), (Str.ofString "cell")] : List Str).length := fun al ds m h => by
  first | (have h := (h : _ ∧ _).1; rw [h]; rfl) | (have h : ds = _ := h; rw [h]; rfl) | (obtain ⟨⟨h, _⟩, _⟩ := h; rw [h]; rfl) | (rcases al with a | d <;> (obtain ⟨h, _⟩ := h; rw [h]; rfl)) | (rcases al with ⟨a | d, q⟩ <;> (obtain ⟨_, h, _⟩ := h; rw [h]; rfl)) | exact (h : False).elim | (rcases al with _ | ⟨a, d⟩ <;> first | (have h : ds = _ := h; rw [h]; rfl) | (have h := (h : _ ∧ _).1; rw [h]; rfl))
theorem lenF_law : ∀ (al : sp_law.al) (ds : List D) (m : Mp), sp_law.pre al ds m → ds.length = ([(Str.ofString "script")] : List Str).length := fun al ds m h => by
  first | (have h := (h : _ ∧ _).1; rw [h]; rfl) | (have h : ds = _ := h; rw [h]; rfl) | (obtain ⟨⟨h, _⟩, _⟩ := h; rw [h]; rfl) | (rcases al with a | d <;> (obtain ⟨h, _⟩ := h; rw [h]; rfl)) | (rcases al with ⟨a | d, q⟩ <;> (obtain ⟨_, h, _⟩ := h; rw [h]; rfl)) | exact (h : False).elim | (rcases al with _ | ⟨a, d⟩ <;> first | (have h : ds = _ := h; rw [h]; rfl) | (have h := (h : _ ∧ _).1; rw [h]; rfl))
theorem all_mk {l : PySem.W.OpenLaw} {w : World} {K : PySem.W.Frag} {h : Heap} {mg : Str → Option Value} {fa a14 a15 a17 a146 a155 a147 a148 a149 a159 a9 a150 a151 a154 a161 a152 a156 a645 a646 a160 a157 a153 a158 a162 : Addr} (X : K.In h) (G : h.Ns mainGlobals mg) (hfa : mg "law" = some (.ref fa))
    {od14 an14 : Option Addr} {sl14 : Array (Option Value)} {oc14 kV14 dc14 pm14 cd14 ct14 : Value}
    {od15 an15 : Option Addr} {sl15 : Array (Option Value)} {oc15 kV15 dc15 pm15 cd15 ct15 : Value}
    {od17 an17 : Option Addr} {sl17 : Array (Option Value)} {oc17 kV17 dc17 pm17 cd17 ct17 : Value}
    {od146 an146 : Option Addr} {sl146 : Array (Option Value)} {oc146 kV146 dc146 pm146 cd146 ct146 : Value}
    {od155 an155 : Option Addr} {sl155 : Array (Option Value)} {oc155 kV155 dc155 pm155 cd155 ct155 : Value}
    {od147 an147 : Option Addr} {sl147 : Array (Option Value)} {oc147 kV147 dc147 pm147 cd147 ct147 : Value}
    {od148 an148 : Option Addr} {sl148 : Array (Option Value)} {oc148 kV148 dc148 pm148 cd148 ct148 : Value}
    {od149 an149 : Option Addr} {sl149 : Array (Option Value)} {oc149 kV149 dc149 pm149 cd149 ct149 : Value}
    {od159 an159 : Option Addr} {sl159 : Array (Option Value)} {oc159 kV159 dc159 pm159 cd159 ct159 : Value}
    {od9 an9 : Option Addr} {sl9 : Array (Option Value)} {oc9 kV9 dc9 pm9 cd9 ct9 : Value}
    {od150 an150 : Option Addr} {sl150 : Array (Option Value)} {oc150 kV150 dc150 pm150 cd150 ct150 : Value}
    {od151 an151 : Option Addr} {sl151 : Array (Option Value)} {oc151 kV151 dc151 pm151 cd151 ct151 : Value}
    {od154 an154 : Option Addr} {sl154 : Array (Option Value)} {oc154 kV154 dc154 pm154 cd154 ct154 : Value}
    {od161 an161 : Option Addr} {sl161 : Array (Option Value)} {oc161 kV161 dc161 pm161 cd161 ct161 : Value}
    {od152 an152 : Option Addr} {sl152 : Array (Option Value)} {oc152 kV152 dc152 pm152 cd152 ct152 : Value}
    {od156 an156 : Option Addr} {sl156 : Array (Option Value)} {oc156 kV156 dc156 pm156 cd156 ct156 : Value}
    {od645 an645 : Option Addr} {sl645 : Array (Option Value)} {oc645 kV645 dc645 pm645 cd645 ct645 : Value}
    {od646 an646 : Option Addr} {sl646 : Array (Option Value)} {oc646 kV646 dc646 pm646 cd646 ct646 : Value}
    {od160 an160 : Option Addr} {sl160 : Array (Option Value)} {oc160 kV160 dc160 pm160 cd160 ct160 : Value}
    {od157 an157 : Option Addr} {sl157 : Array (Option Value)} {oc157 kV157 dc157 pm157 cd157 ct157 : Value}
    {od153 an153 : Option Addr} {sl153 : Array (Option Value)} {oc153 kV153 dc153 pm153 cd153 ct153 : Value}
    {od158 an158 : Option Addr} {sl158 : Array (Option Value)} {oc158 kV158 dc158 pm158 cd158 ct158 : Value}
    {od162 an162 : Option Addr} {sl162 : Array (Option Value)} {oc162 kV162 dc162 pm162 cd162 ct162 : Value}
    (n14 : PySem.W.nsIn K mainGlobals (Str.ofString "text_codes") = some (some (.ref a14))) (l14 : K.lookup a14 = some ⟨oc14, od14, .func (PySem.W.fnOf (Str.ofString "text_codes") (Str.ofString "text_codes") (defArgs st_text_codes) (defBody st_text_codes) (defScope st_text_codes) .none kV14 dc14 pm14 an14 cd14 ct14), sl14⟩) (c14 : PySem.W.codeIn K cd14 (Str.ofString "text_codes") = true) (k14 : PySem.W.keepIn K (.ref a14) = true)
    (n15 : PySem.W.nsIn K mainGlobals (Str.ofString "codes_of") = some (some (.ref a15))) (l15 : K.lookup a15 = some ⟨oc15, od15, .func (PySem.W.fnOf (Str.ofString "codes_of") (Str.ofString "codes_of") (defArgs st_codes_of) (defBody st_codes_of) (defScope st_codes_of) .none kV15 dc15 pm15 an15 cd15 ct15), sl15⟩) (c15 : PySem.W.codeIn K cd15 (Str.ofString "codes_of") = true) (k15 : PySem.W.keepIn K (.ref a15) = true)
    (n17 : PySem.W.nsIn K mainGlobals (Str.ofString "seal") = some (some (.ref a17))) (l17 : K.lookup a17 = some ⟨oc17, od17, .func (PySem.W.fnOf (Str.ofString "seal") (Str.ofString "seal") (defArgs st_seal) (defBody st_seal) (defScope st_seal) .none kV17 dc17 pm17 an17 cd17 ct17), sl17⟩) (c17 : PySem.W.codeIn K cd17 (Str.ofString "seal") = true) (k17 : PySem.W.keepIn K (.ref a17) = true)
    (n146 : PySem.W.nsIn K mainGlobals (Str.ofString "check_of") = some (some (.ref a146))) (l146 : K.lookup a146 = some ⟨oc146, od146, .func (PySem.W.fnOf (Str.ofString "check_of") (Str.ofString "check_of") (defArgs st_check_of) (defBody st_check_of) (defScope st_check_of) .none kV146 dc146 pm146 an146 cd146 ct146), sl146⟩) (c146 : PySem.W.codeIn K cd146 (Str.ofString "check_of") = true) (k146 : PySem.W.keepIn K (.ref a146) = true)
    (n155 : PySem.W.nsIn K mainGlobals (Str.ofString "record") = some (some (.ref a155))) (l155 : K.lookup a155 = some ⟨oc155, od155, .func (PySem.W.fnOf (Str.ofString "record") (Str.ofString "record") (defArgs st_record) (defBody st_record) (defScope st_record) .none kV155 dc155 pm155 an155 cd155 ct155), sl155⟩) (c155 : PySem.W.codeIn K cd155 (Str.ofString "record") = true) (k155 : PySem.W.keepIn K (.ref a155) = true)
    (n147 : PySem.W.nsIn K mainGlobals (Str.ofString "number_at") = some (some (.ref a147))) (l147 : K.lookup a147 = some ⟨oc147, od147, .func (PySem.W.fnOf (Str.ofString "number_at") (Str.ofString "number_at") (defArgs st_number_at) (defBody st_number_at) (defScope st_number_at) .none kV147 dc147 pm147 an147 cd147 ct147), sl147⟩) (c147 : PySem.W.codeIn K cd147 (Str.ofString "number_at") = true) (k147 : PySem.W.keepIn K (.ref a147) = true)
    (n148 : PySem.W.nsIn K mainGlobals (Str.ofString "is_payload") = some (some (.ref a148))) (l148 : K.lookup a148 = some ⟨oc148, od148, .func (PySem.W.fnOf (Str.ofString "is_payload") (Str.ofString "is_payload") (defArgs st_is_payload) (defBody st_is_payload) (defScope st_is_payload) .none kV148 dc148 pm148 an148 cd148 ct148), sl148⟩) (c148 : PySem.W.codeIn K cd148 (Str.ofString "is_payload") = true) (k148 : PySem.W.keepIn K (.ref a148) = true)
    (n149 : PySem.W.nsIn K mainGlobals (Str.ofString "record_at") = some (some (.ref a149))) (l149 : K.lookup a149 = some ⟨oc149, od149, .func (PySem.W.fnOf (Str.ofString "record_at") (Str.ofString "record_at") (defArgs st_record_at) (defBody st_record_at) (defScope st_record_at) .none kV149 dc149 pm149 an149 cd149 ct149), sl149⟩) (c149 : PySem.W.codeIn K cd149 (Str.ofString "record_at") = true) (k149 : PySem.W.keepIn K (.ref a149) = true)
    (n159 : PySem.W.nsIn K mainGlobals (Str.ofString "records") = some (some (.ref a159))) (l159 : K.lookup a159 = some ⟨oc159, od159, .func (PySem.W.fnOf (Str.ofString "records") (Str.ofString "records") (defArgs st_records) (defBody st_records) (defScope st_records) .none kV159 dc159 pm159 an159 cd159 ct159), sl159⟩) (c159 : PySem.W.codeIn K cd159 (Str.ofString "records") = true) (k159 : PySem.W.keepIn K (.ref a159) = true)
    (n9 : PySem.W.nsIn K mainGlobals (Str.ofString "_law_cell_at") = some (some (.ref a9))) (l9 : K.lookup a9 = some ⟨oc9, od9, .func (PySem.W.fnOf (Str.ofString "_law_cell_at") (Str.ofString "_law_cell_at") (defArgs st_law_cell_at) (defBody st_law_cell_at) (defScope st_law_cell_at) .none kV9 dc9 pm9 an9 cd9 ct9), sl9⟩) (c9 : PySem.W.codeIn K cd9 (Str.ofString "_law_cell_at") = true) (k9 : PySem.W.keepIn K (.ref a9) = true)
    (n150 : PySem.W.nsIn K mainGlobals (Str.ofString "_law_mixed") = some (some (.ref a150))) (l150 : K.lookup a150 = some ⟨oc150, od150, .func (PySem.W.fnOf (Str.ofString "_law_mixed") (Str.ofString "_law_mixed") (defArgs st_law_mixed) (defBody st_law_mixed) (defScope st_law_mixed) .none kV150 dc150 pm150 an150 cd150 ct150), sl150⟩) (c150 : PySem.W.codeIn K cd150 (Str.ofString "_law_mixed") = true) (k150 : PySem.W.keepIn K (.ref a150) = true)
    (n151 : PySem.W.nsIn K mainGlobals (Str.ofString "_law_sign") = some (some (.ref a151))) (l151 : K.lookup a151 = some ⟨oc151, od151, .func (PySem.W.fnOf (Str.ofString "_law_sign") (Str.ofString "_law_sign") (defArgs st_law_sign) (defBody st_law_sign) (defScope st_law_sign) .none kV151 dc151 pm151 an151 cd151 ct151), sl151⟩) (c151 : PySem.W.codeIn K cd151 (Str.ofString "_law_sign") = true) (k151 : PySem.W.keepIn K (.ref a151) = true)
    (n154 : PySem.W.nsIn K mainGlobals (Str.ofString "_law_lists") = some (some (.ref a154))) (l154 : K.lookup a154 = some ⟨oc154, od154, .func (PySem.W.fnOf (Str.ofString "_law_lists") (Str.ofString "_law_lists") (defArgs st_law_lists) (defBody st_law_lists) (defScope st_law_lists) .none kV154 dc154 pm154 an154 cd154 ct154), sl154⟩) (c154 : PySem.W.codeIn K cd154 (Str.ofString "_law_lists") = true) (k154 : PySem.W.keepIn K (.ref a154) = true)
    (n161 : PySem.W.nsIn K mainGlobals (Str.ofString "_law_sealed") = some (some (.ref a161))) (l161 : K.lookup a161 = some ⟨oc161, od161, .func (PySem.W.fnOf (Str.ofString "_law_sealed") (Str.ofString "_law_sealed") (defArgs st_law_sealed) (defBody st_law_sealed) (defScope st_law_sealed) .none kV161 dc161 pm161 an161 cd161 ct161), sl161⟩) (c161 : PySem.W.codeIn K cd161 (Str.ofString "_law_sealed") = true) (k161 : PySem.W.keepIn K (.ref a161) = true)
    (n152 : PySem.W.nsIn K mainGlobals (Str.ofString "_law_check") = some (some (.ref a152))) (l152 : K.lookup a152 = some ⟨oc152, od152, .func (PySem.W.fnOf (Str.ofString "_law_check") (Str.ofString "_law_check") (defArgs st_law_check) (defBody st_law_check) (defScope st_law_check) .none kV152 dc152 pm152 an152 cd152 ct152), sl152⟩) (c152 : PySem.W.codeIn K cd152 (Str.ofString "_law_check") = true) (k152 : PySem.W.keepIn K (.ref a152) = true)
    (n156 : PySem.W.nsIn K mainGlobals (Str.ofString "_law_record") = some (some (.ref a156))) (l156 : K.lookup a156 = some ⟨oc156, od156, .func (PySem.W.fnOf (Str.ofString "_law_record") (Str.ofString "_law_record") (defArgs st_law_record) (defBody st_law_record) (defScope st_law_record) .none kV156 dc156 pm156 an156 cd156 ct156), sl156⟩) (c156 : PySem.W.codeIn K cd156 (Str.ofString "_law_record") = true) (k156 : PySem.W.keepIn K (.ref a156) = true)
    (n645 : PySem.W.nsIn K mainGlobals (Str.ofString "_law_number") = some (some (.ref a645))) (l645 : K.lookup a645 = some ⟨oc645, od645, .func (PySem.W.fnOf (Str.ofString "_law_number") (Str.ofString "_law_number") (defArgs st_law_number) (defBody st_law_number) (defScope st_law_number) .none kV645 dc645 pm645 an645 cd645 ct645), sl645⟩) (c645 : PySem.W.codeIn K cd645 (Str.ofString "_law_number") = true) (k645 : PySem.W.keepIn K (.ref a645) = true)
    (n646 : PySem.W.nsIn K mainGlobals (Str.ofString "_law_good") = some (some (.ref a646))) (l646 : K.lookup a646 = some ⟨oc646, od646, .func (PySem.W.fnOf (Str.ofString "_law_good") (Str.ofString "_law_good") (defArgs st_law_good) (defBody st_law_good) (defScope st_law_good) .none kV646 dc646 pm646 an646 cd646 ct646), sl646⟩) (c646 : PySem.W.codeIn K cd646 (Str.ofString "_law_good") = true) (k646 : PySem.W.keepIn K (.ref a646) = true)
    (n160 : PySem.W.nsIn K mainGlobals (Str.ofString "_law_read") = some (some (.ref a160))) (l160 : K.lookup a160 = some ⟨oc160, od160, .func (PySem.W.fnOf (Str.ofString "_law_read") (Str.ofString "_law_read") (defArgs st_law_read) (defBody st_law_read) (defScope st_law_read) .none kV160 dc160 pm160 an160 cd160 ct160), sl160⟩) (c160 : PySem.W.codeIn K cd160 (Str.ofString "_law_read") = true) (k160 : PySem.W.keepIn K (.ref a160) = true)
    (n157 : PySem.W.nsIn K mainGlobals (Str.ofString "_law_spoilt") = some (some (.ref a157))) (l157 : K.lookup a157 = some ⟨oc157, od157, .func (PySem.W.fnOf (Str.ofString "_law_spoilt") (Str.ofString "_law_spoilt") (defArgs st_law_spoilt) (defBody st_law_spoilt) (defScope st_law_spoilt) .none kV157 dc157 pm157 an157 cd157 ct157), sl157⟩) (c157 : PySem.W.codeIn K cd157 (Str.ofString "_law_spoilt") = true) (k157 : PySem.W.keepIn K (.ref a157) = true)
    (n153 : PySem.W.nsIn K mainGlobals (Str.ofString "_law_of") = some (some (.ref a153))) (l153 : K.lookup a153 = some ⟨oc153, od153, .func (PySem.W.fnOf (Str.ofString "_law_of") (Str.ofString "_law_of") (defArgs st_law_of) (defBody st_law_of) (defScope st_law_of) .none kV153 dc153 pm153 an153 cd153 ct153), sl153⟩) (c153 : PySem.W.codeIn K cd153 (Str.ofString "_law_of") = true) (k153 : PySem.W.keepIn K (.ref a153) = true)
    (n158 : PySem.W.nsIn K mainGlobals (Str.ofString "_law_odd") = some (some (.ref a158))) (l158 : K.lookup a158 = some ⟨oc158, od158, .func (PySem.W.fnOf (Str.ofString "_law_odd") (Str.ofString "_law_odd") (defArgs st_law_odd) (defBody st_law_odd) (defScope st_law_odd) .none kV158 dc158 pm158 an158 cd158 ct158), sl158⟩) (c158 : PySem.W.codeIn K cd158 (Str.ofString "_law_odd") = true) (k158 : PySem.W.keepIn K (.ref a158) = true)
    (n162 : PySem.W.nsIn K mainGlobals (Str.ofString "law") = some (some (.ref a162))) (l162 : K.lookup a162 = some ⟨oc162, od162, .func (PySem.W.fnOf (Str.ofString "law") (Str.ofString "law") (defArgs st_law) (defBody st_law) (defScope st_law) .none kV162 dc162 pm162 an162 cd162 ct162), sl162⟩) (c162 : PySem.W.codeIn K cd162 (Str.ofString "law") = true) (k162 : PySem.W.keepIn K (.ref a162) = true)
    (z_all : PySem.W.nsIn K mainGlobals (Str.ofString "all") = some none)
    (z_int : PySem.W.nsIn K mainGlobals (Str.ofString "int") = some none)
    (z_isinstance : PySem.W.nsIn K mainGlobals (Str.ofString "isinstance") = some none)
    (z_len : PySem.W.nsIn K mainGlobals (Str.ofString "len") = some none)
    (z_list : PySem.W.nsIn K mainGlobals (Str.ofString "list") = some none)
    (z_max : PySem.W.nsIn K mainGlobals (Str.ofString "max") = some none)
    (z_ord : PySem.W.nsIn K mainGlobals (Str.ofString "ord") = some none)
    (z_range : PySem.W.nsIn K mainGlobals (Str.ofString "range") = some none)
    (z_str : PySem.W.nsIn K mainGlobals (Str.ofString "str") = some none)
    (z_tuple : PySem.W.nsIn K mainGlobals (Str.ofString "tuple") = some none)
    {v_BASE : Value} (y_BASE : PySem.W.nsIn K mainGlobals (Str.ofString "BASE") = some (some v_BASE)) (x_BASE : RelV (.int 1234567890123456789) v_BASE)
    {v_BEGIN : Value} (y_BEGIN : PySem.W.nsIn K mainGlobals (Str.ofString "BEGIN") = some (some v_BEGIN)) (x_BEGIN : RelV (.int 7) v_BEGIN)
    {v_FIGURES : Value} (y_FIGURES : PySem.W.nsIn K mainGlobals (Str.ofString "FIGURES") = some (some v_FIGURES)) (x_FIGURES : RelV (.str (Str.ofString "0123456789")) v_FIGURES)
    {v_HALF : Value} (y_HALF : PySem.W.nsIn K mainGlobals (Str.ofString "HALF") = some (some v_HALF)) (x_HALF : RelV (.int 1000000000000000) v_HALF)
    {v_LEAST : Value} (y_LEAST : PySem.W.nsIn K mainGlobals (Str.ofString "LEAST") = some (some v_LEAST)) (x_LEAST : RelV (.int 1000000000000000000000000000000) v_LEAST)
    {v_MOST_FIGURES : Value} (y_MOST_FIGURES : PySem.W.nsIn K mainGlobals (Str.ofString "MOST_FIGURES") = some (some v_MOST_FIGURES)) (x_MOST_FIGURES : RelV (.int 20) v_MOST_FIGURES)
    {v_MOST_SEAL : Value} (y_MOST_SEAL : PySem.W.nsIn K mainGlobals (Str.ofString "MOST_SEAL") = some (some v_MOST_SEAL)) (x_MOST_SEAL : RelV (.int 2305843009213693951) v_MOST_SEAL)
    {v_PIECE : Value} (y_PIECE : PySem.W.nsIn K mainGlobals (Str.ofString "PIECE") = some (some v_PIECE)) (x_PIECE : RelV (.int 50) v_PIECE)
    : ∃ fd : FuncData, (∀ (s : Shared) (v : Value), BindsTo s fd ⟨[v], []⟩ [("script", v)]) ∧ ∀ base : Heap, K.In base → base.Ns mainGlobals mg → FnOk l.prog w K mg base (L2.CX l.prog w) 40 fa fd ["script"] (rawSp K) := by
  have e := hfa.symm.trans (PySem.W.mg_of X G n162)
  cases e
  have F14 := fun_mk (st := st_text_codes) l14 c14 k14
  have F15 := fun_mk (st := st_codes_of) l15 c15 k15
  have F17 := fun_mk (st := st_seal) l17 c17 k17
  have F146 := fun_mk (st := st_check_of) l146 c146 k146
  have F155 := fun_mk (st := st_record) l155 c155 k155
  have F147 := fun_mk (st := st_number_at) l147 c147 k147
  have F148 := fun_mk (st := st_is_payload) l148 c148 k148
  have F149 := fun_mk (st := st_record_at) l149 c149 k149
  have F159 := fun_mk (st := st_records) l159 c159 k159
  have F9 := fun_mk (st := st_law_cell_at) l9 c9 k9
  have F150 := fun_mk (st := st_law_mixed) l150 c150 k150
  have F151 := fun_mk (st := st_law_sign) l151 c151 k151
  have F154 := fun_mk (st := st_law_lists) l154 c154 k154
  have F161 := fun_mk (st := st_law_sealed) l161 c161 k161
  have F152 := fun_mk (st := st_law_check) l152 c152 k152
  have F156 := fun_mk (st := st_law_record) l156 c156 k156
  have F645 := fun_mk (st := st_law_number) l645 c645 k645
  have F646 := fun_mk (st := st_law_good) l646 c646 k646
  have F160 := fun_mk (st := st_law_read) l160 c160 k160
  have F157 := fun_mk (st := st_law_spoilt) l157 c157 k157
  have F153 := fun_mk (st := st_law_of) l153 c153 k153
  have F158 := fun_mk (st := st_law_odd) l158 c158 k158
  have F162 := fun_mk (st := st_law) l162 c162 k162
  have B14 := F14.binds (ps := [(Str.ofString "text")]) fun _ _ _ _ _ _ us hl => match us, hl with | [_], _ => rfl
  have B15 := F15.binds (ps := [(Str.ofString "thing")]) fun _ _ _ _ _ _ us hl => match us, hl with | [_], _ => rfl
  have B17 := F17.binds (ps := [(Str.ofString "thing")]) fun _ _ _ _ _ _ us hl => match us, hl with | [_], _ => rfl
  have B146 := F146.binds (ps := [(Str.ofString "text")]) fun _ _ _ _ _ _ us hl => match us, hl with | [_], _ => rfl
  have B155 := F155.binds (ps := [(Str.ofString "texts")]) fun _ _ _ _ _ _ us hl => match us, hl with | [_], _ => rfl
  have B147 := F147.binds (ps := [(Str.ofString "text"), (Str.ofString "at"), (Str.ofString "mark")]) fun _ _ _ _ _ _ us hl => match us, hl with | [_, _, _], _ => rfl
  have B148 := F148.binds (ps := [(Str.ofString "text")]) fun _ _ _ _ _ _ us hl => match us, hl with | [_], _ => rfl
  have B149 := F149.binds (ps := [(Str.ofString "text"), (Str.ofString "at")]) fun _ _ _ _ _ _ us hl => match us, hl with | [_, _], _ => rfl
  have B159 := F159.binds (ps := [(Str.ofString "text")]) fun _ _ _ _ _ _ us hl => match us, hl with | [_], _ => rfl
  have B9 := F9.binds (ps := [(Str.ofString "script"), (Str.ofString "k")]) fun _ _ _ _ _ _ us hl => match us, hl with | [_, _], _ => rfl
  have B150 := F150.binds (ps := [(Str.ofString "cell"), (Str.ofString "k")]) fun _ _ _ _ _ _ us hl => match us, hl with | [_, _], _ => rfl
  have B151 := F151.binds (ps := [(Str.ofString "number")]) fun _ _ _ _ _ _ us hl => match us, hl with | [_], _ => rfl
  have B154 := F154.binds (ps := [(Str.ofString "cells")]) fun _ _ _ _ _ _ us hl => match us, hl with | [_], _ => rfl
  have B161 := F161.binds (ps := [(Str.ofString "number"), (Str.ofString "piece")]) fun _ _ _ _ _ _ us hl => match us, hl with | [_, _], _ => rfl
  have B152 := F152.binds (ps := [(Str.ofString "payload")]) fun _ _ _ _ _ _ us hl => match us, hl with | [_], _ => rfl
  have B156 := F156.binds (ps := [(Str.ofString "texts")]) fun _ _ _ _ _ _ us hl => match us, hl with | [_], _ => rfl
  have B645 := F645.binds (ps := [(Str.ofString "text")]) fun _ _ _ _ _ _ us hl => match us, hl with | [_], _ => rfl
  have B646 := F646.binds (ps := [(Str.ofString "payload")]) fun _ _ _ _ _ _ us hl => match us, hl with | [_], _ => rfl
  have B160 := F160.binds (ps := [(Str.ofString "text")]) fun _ _ _ _ _ _ us hl => match us, hl with | [_], _ => rfl
  have B157 := F157.binds (ps := [(Str.ofString "text"), (Str.ofString "cell"), (Str.ofString "more")]) fun _ _ _ _ _ _ us hl => match us, hl with | [_, _, _], _ => rfl
  have B153 := F153.binds (ps := [(Str.ofString "payload")]) fun _ _ _ _ _ _ us hl => match us, hl with | [_], _ => rfl
  have B158 := F158.binds (ps := [(Str.ofString "text"), (Str.ofString "cell")]) fun _ _ _ _ _ _ us hl => match us, hl with | [_, _], _ => rfl
  have W : ∀ (base : Heap), ∀ L, Wd l.prog w K mg base (⟨fun _ => none, w⟩ : Cl) TT (adT a14 a15 a17 a146 a155 a147 a148 a149 a159 a9 a150 a151 a154 a161 a152 a156 a645 a646 a160 a157 a153 a158) L := by
    intro base L
    induction L with
    | zero => exact ⟨kn_mk (PySem.W.mg_of X G n14) F14 B14 fn0,
        kn_mk (PySem.W.mg_of X G n15) F15 B15 fn0,
        kn_mk (PySem.W.mg_of X G n17) F17 B17 fn0,
        kn_mk (PySem.W.mg_of X G n146) F146 B146 fn0,
        kn_mk (PySem.W.mg_of X G n155) F155 B155 fn0,
        kn_mk (PySem.W.mg_of X G n147) F147 B147 fn0,
        kn_mk (PySem.W.mg_of X G n148) F148 B148 fn0,
        kn_mk (PySem.W.mg_of X G n149) F149 B149 fn0,
        kn_mk (PySem.W.mg_of X G n159) F159 B159 fn0,
        kn_mk (PySem.W.mg_of X G n9) F9 B9 fn0,
        kn_mk (PySem.W.mg_of X G n150) F150 B150 fn0,
        kn_mk (PySem.W.mg_of X G n151) F151 B151 fn0,
        kn_mk (PySem.W.mg_of X G n154) F154 B154 fn0,
        kn_mk (PySem.W.mg_of X G n161) F161 B161 fn0,
        kn_mk (PySem.W.mg_of X G n152) F152 B152 fn0,
        kn_mk (PySem.W.mg_of X G n156) F156 B156 fn0,
        kn_mk (PySem.W.mg_of X G n645) F645 B645 fn0,
        kn_mk (PySem.W.mg_of X G n646) F646 B646 fn0,
        kn_mk (PySem.W.mg_of X G n160) F160 B160 fn0,
        kn_mk (PySem.W.mg_of X G n157) F157 B157 fn0,
        kn_mk (PySem.W.mg_of X G n153) F153 B153 fn0,
        kn_mk (PySem.W.mg_of X G n158) F158 B158 fn0,
        PySem.W.mg_none_of X G z_all,
        PySem.W.mg_none_of X G z_int,
        PySem.W.mg_none_of X G z_isinstance,
        PySem.W.mg_none_of X G z_len,
        PySem.W.mg_none_of X G z_list,
        PySem.W.mg_none_of X G z_max,
        PySem.W.mg_none_of X G z_ord,
        PySem.W.mg_none_of X G z_range,
        PySem.W.mg_none_of X G z_str,
        PySem.W.mg_none_of X G z_tuple,
        ⟨_, PySem.W.mg_of X G y_BASE, x_BASE⟩,
        ⟨_, PySem.W.mg_of X G y_BEGIN, x_BEGIN⟩,
        ⟨_, PySem.W.mg_of X G y_FIGURES, x_FIGURES⟩,
        ⟨_, PySem.W.mg_of X G y_HALF, x_HALF⟩,
        ⟨_, PySem.W.mg_of X G y_LEAST, x_LEAST⟩,
        ⟨_, PySem.W.mg_of X G y_MOST_FIGURES, x_MOST_FIGURES⟩,
        ⟨_, PySem.W.mg_of X G y_MOST_SEAL, x_MOST_SEAL⟩,
        ⟨_, PySem.W.mg_of X G y_PIECE, x_PIECE⟩⟩
    | succ L IH => exact ⟨kn_mk (PySem.W.mg_of X G n14) F14 B14 (def_ok F14 sc_text_codes lenF_text_codes (b_tcodes TT) (fun cdv A outer s H E hr => d_text_codes IH cdv A outer s H E hr)),
        kn_mk (PySem.W.mg_of X G n15) F15 B15 (def_ok F15 sc_codes_of lenF_codes_of (b_codes TT rfl rfl) (fun cdv A outer s H E hr => d_codes_of IH cdv A outer s H E hr)),
        kn_mk (PySem.W.mg_of X G n17) F17 B17 (def_ok F17 sc_seal lenF_seal (b_seal TT rfl) (fun cdv A outer s H E hr => d_seal IH cdv A outer s H E hr)),
        kn_mk (PySem.W.mg_of X G n146) F146 B146 (def_ok F146 sc_check_of lenF_check_of (b_check TT rfl) (fun cdv A outer s H E hr => d_check_of IH cdv A outer s H E hr)),
        kn_mk (PySem.W.mg_of X G n155) F155 B155 (def_ok F155 sc_record lenF_record (b_record TT rfl) (fun cdv A outer s H E hr => d_record IH cdv A outer s H E hr)),
        kn_mk (PySem.W.mg_of X G n147) F147 B147 (def_ok F147 sc_number_at lenF_number_at (b_numat TT) (fun cdv A outer s H E hr => d_number_at IH cdv A outer s H E hr)),
        kn_mk (PySem.W.mg_of X G n148) F148 B148 (def_ok F148 sc_is_payload lenF_is_payload (b_ispay TT) (fun cdv A outer s H E hr => d_is_payload IH cdv A outer s H E hr)),
        kn_mk (PySem.W.mg_of X G n149) F149 B149 (def_ok F149 sc_record_at lenF_record_at (b_recat TT rfl rfl rfl) (fun cdv A outer s H E hr => d_record_at IH cdv A outer s H E hr)),
        kn_mk (PySem.W.mg_of X G n159) F159 B159 (def_ok F159 sc_records lenF_records (b_records TT rfl) (fun cdv A outer s H E hr => d_records IH cdv A outer s H E hr)),
        kn_mk (PySem.W.mg_of X G n9) F9 B9 (def_ok F9 sc_law_cell_at lenF_law_cell_at (b_cell TT) (fun cdv A outer s H E hr => d_law_cell_at IH cdv A outer s H E hr)),
        kn_mk (PySem.W.mg_of X G n150) F150 B150 (def_ok F150 sc_law_mixed lenF_law_mixed (b_mixed TT) (fun cdv A outer s H E hr => d_law_mixed IH cdv A outer s H E hr)),
        kn_mk (PySem.W.mg_of X G n151) F151 B151 (def_ok F151 sc_law_sign lenF_law_sign (b_sign TT) (fun cdv A outer s H E hr => d_law_sign IH cdv A outer s H E hr)),
        kn_mk (PySem.W.mg_of X G n154) F154 B154 (def_ok F154 sc_law_lists lenF_law_lists (b_lists TT rfl rfl) (fun cdv A outer s H E hr => d_law_lists IH cdv A outer s H E hr)),
        kn_mk (PySem.W.mg_of X G n161) F161 B161 (def_ok F161 sc_law_sealed lenF_law_sealed (b_lsealed TT) (fun cdv A outer s H E hr => d_law_sealed IH cdv A outer s H E hr)),
        kn_mk (PySem.W.mg_of X G n152) F152 B152 (def_ok F152 sc_law_check lenF_law_check (b_lcheck TT rfl) (fun cdv A outer s H E hr => d_law_check IH cdv A outer s H E hr)),
        kn_mk (PySem.W.mg_of X G n156) F156 B156 (def_ok F156 sc_law_record lenF_law_record (b_lrecord TT rfl) (fun cdv A outer s H E hr => d_law_record IH cdv A outer s H E hr)),
        kn_mk (PySem.W.mg_of X G n645) F645 B645 (def_ok F645 sc_law_number lenF_law_number (b_lnum TT) (fun cdv A outer s H E hr => d_law_number IH cdv A outer s H E hr)),
        kn_mk (PySem.W.mg_of X G n646) F646 B646 (def_ok F646 sc_law_good lenF_law_good (b_lgood TT rfl) (fun cdv A outer s H E hr => d_law_good IH cdv A outer s H E hr)),
        kn_mk (PySem.W.mg_of X G n160) F160 B160 (def_ok F160 sc_law_read lenF_law_read (b_lread TT rfl rfl rfl) (fun cdv A outer s H E hr => d_law_read IH cdv A outer s H E hr)),
        kn_mk (PySem.W.mg_of X G n157) F157 B157 (def_ok F157 sc_law_spoilt lenF_law_spoilt (b_spoilt TT rfl rfl) (fun cdv A outer s H E hr => d_law_spoilt IH cdv A outer s H E hr)),
        kn_mk (PySem.W.mg_of X G n153) F153 B153 (def_ok F153 sc_law_of lenF_law_of (b_lof TT rfl) (fun cdv A outer s H E hr => d_law_of IH cdv A outer s H E hr)),
        kn_mk (PySem.W.mg_of X G n158) F158 B158 (def_ok F158 sc_law_odd lenF_law_odd (b_odd TT rfl) (fun cdv A outer s H E hr => d_law_odd IH cdv A outer s H E hr)),
        PySem.W.mg_none_of X G z_all,
        PySem.W.mg_none_of X G z_int,
        PySem.W.mg_none_of X G z_isinstance,
        PySem.W.mg_none_of X G z_len,
        PySem.W.mg_none_of X G z_list,
        PySem.W.mg_none_of X G z_max,
        PySem.W.mg_none_of X G z_ord,
        PySem.W.mg_none_of X G z_range,
        PySem.W.mg_none_of X G z_str,
        PySem.W.mg_none_of X G z_tuple,
        ⟨_, PySem.W.mg_of X G y_BASE, x_BASE⟩,
        ⟨_, PySem.W.mg_of X G y_BEGIN, x_BEGIN⟩,
        ⟨_, PySem.W.mg_of X G y_FIGURES, x_FIGURES⟩,
        ⟨_, PySem.W.mg_of X G y_HALF, x_HALF⟩,
        ⟨_, PySem.W.mg_of X G y_LEAST, x_LEAST⟩,
        ⟨_, PySem.W.mg_of X G y_MOST_FIGURES, x_MOST_FIGURES⟩,
        ⟨_, PySem.W.mg_of X G y_MOST_SEAL, x_MOST_SEAL⟩,
        ⟨_, PySem.W.mg_of X G y_PIECE, x_PIECE⟩⟩
  refine ⟨PySem.W.fnOf "law" "law" (defArgs st_law) (defBody st_law) (defScope st_law) .none kV162 dc162 pm162 an162 cd162 ct162, fun s v => .of_eq rfl, fun base _ _ => ?_⟩
  exact FnOk.imp (def_ok F162 sc_law lenF_law (b_law TT rfl rfl rfl rfl rfl rfl rfl rfl rfl rfl) (fun cdv A outer s H E hr => d_law (W base _) cdv A outer s H E hr)) (raw_of (S := sp_law) (fun a ns => (a, ns)) (fun _ _ => by dsimp only [sp_law]; decide) (fun a ns m h => ⟨rfl, h⟩) (fun _ _ _ _ h => h) (fun _ _ _ _ h => h))
theorem walk {l : PySem.W.OpenLaw} {q : Program} {loose : List Str} {XP : (Str → Option Value) → Heap → Prop} {YP : World → Heap → Prop} {d : DefRec} {K : Params → PySem.W.Frag} (hn : l.most = some 63) (hdf : d.params.defaults = [])
    (hY : ∀ (w : World) (h : Heap), YP w h → (K w.params).In h)
    (F : ∀ (w : World) (mg : Str → Option Value) (fa : Addr) (h : Heap), (K w.params).In h → h.Ns mainGlobals mg → mg d.name = some (.ref fa) →
      ∃ fd : FuncData, (∀ (s : Shared) (u : Value), BindsTo s fd ⟨[u], []⟩ [("script", u)]) ∧ ∀ base : Heap, (K w.params).In base → base.Ns mainGlobals mg → FnOk l.prog w (K w.params) mg base (L2.CX l.prog w) 40 fa fd ["script"] (rawSp (K w.params))) :
    PySem.W.WalkO q loose XP YP l.row.toRowW d [] (fun f vs => PySem.call f vs) :=
  L2.walk_of (n := 63) (k := 40) (x := "script") (CX := fun w => L2.CX l.prog w) (sp := fun w => rawSp (K w.params)) hn (by decide) hdf ⟨rfl, by decide, by decide⟩ hY F
    (fun w H a ns hl hO hS => ⟨a, ns, rfl, hO, hS, fun v H' h => h⟩) fun w H s e s' z => by obtain ⟨_, _, _, _, _, _, _, _, _, _, _, _, z⟩ := z; exact z
end PV
open PySem PySem.W PyProof.Rows
set_option maxRecDepth 100000 in
set_option maxHeartbeats 0 in
theorem PySem.Challenge.cw_papervault_k91_records_read_holds : PySem.Challenge.rw_papervault_k91_records_read.Holds := by
  w_on; o_law; k_head; (case hw => w_witness2)
  k_fill
  refine PV.walk (l := PySem.Challenge.rw_papervault_k91_records_read) rfl rfl (fun w h Y => PySem.W.kIn_of Y) ?F
  case F =>
    intro w mg fa h KX G hmg
    refine' PV.all_mk KX G hmg ?n14 ?l14 ?c14 ?k14 ?n15 ?l15 ?c15 ?k15 ?n17 ?l17 ?c17 ?k17 ?n146 ?l146 ?c146 ?k146 ?n155 ?l155 ?c155 ?k155 ?n147 ?l147 ?c147 ?k147 ?n148 ?l148 ?c148 ?k148 ?n149 ?l149 ?c149 ?k149 ?n159 ?l159 ?c159 ?k159 ?n9 ?l9 ?c9 ?k9 ?n150 ?l150 ?c150 ?k150 ?n151 ?l151 ?c151 ?k151 ?n154 ?l154 ?c154 ?k154 ?n161 ?l161 ?c161 ?k161 ?n152 ?l152 ?c152 ?k152 ?n156 ?l156 ?c156 ?k156 ?n645 ?l645 ?c645 ?k645 ?n646 ?l646 ?c646 ?k646 ?n160 ?l160 ?c160 ?k160 ?n157 ?l157 ?c157 ?k157 ?n153 ?l153 ?c153 ?k153 ?n158 ?l158 ?c158 ?k158 ?n162 ?l162 ?c162 ?k162 ?z_all ?z_int ?z_isinstance ?z_len ?z_list ?z_max ?z_ord ?z_range ?z_str ?z_tuple ?y_BASE ?x_BASE ?y_BEGIN ?x_BEGIN ?y_FIGURES ?x_FIGURES ?y_HALF ?x_HALF ?y_LEAST ?x_LEAST ?y_MOST_FIGURES ?x_MOST_FIGURES ?y_MOST_SEAL ?x_MOST_SEAL ?y_PIECE ?x_PIECE
    (case n14 => k_is)
    (case l14 => k_is)
    (case c14 => k_is)
    (case k14 => k_is)
    (case n15 => k_is)
    (case l15 => k_is)
    (case c15 => k_is)
    (case k15 => k_is)
    (case n17 => k_is)
    (case l17 => k_is)
    (case c17 => k_is)
    (case k17 => k_is)
    (case n146 => k_is)
    (case l146 => k_is)
    (case c146 => k_is)
    (case k146 => k_is)
    (case n155 => k_is)
    (case l155 => k_is)
    (case c155 => k_is)
    (case k155 => k_is)
    (case n147 => k_is)
    (case l147 => k_is)
    (case c147 => k_is)
    (case k147 => k_is)
    (case n148 => k_is)
    (case l148 => k_is)
    (case c148 => k_is)
    (case k148 => k_is)
    (case n149 => k_is)
    (case l149 => k_is)
    (case c149 => k_is)
    (case k149 => k_is)
    (case n159 => k_is)
    (case l159 => k_is)
    (case c159 => k_is)
    (case k159 => k_is)
    (case n9 => k_is)
    (case l9 => k_is)
    (case c9 => k_is)
    (case k9 => k_is)
    (case n150 => k_is)
    (case l150 => k_is)
    (case c150 => k_is)
    (case k150 => k_is)
    (case n151 => k_is)
    (case l151 => k_is)
    (case c151 => k_is)
    (case k151 => k_is)
    (case n154 => k_is)
    (case l154 => k_is)
    (case c154 => k_is)
    (case k154 => k_is)
    (case n161 => k_is)
    (case l161 => k_is)
    (case c161 => k_is)
    (case k161 => k_is)
    (case n152 => k_is)
    (case l152 => k_is)
    (case c152 => k_is)
    (case k152 => k_is)
    (case n156 => k_is)
    (case l156 => k_is)
    (case c156 => k_is)
    (case k156 => k_is)
    (case n645 => k_is)
    (case l645 => k_is)
    (case c645 => k_is)
    (case k645 => k_is)
    (case n646 => k_is)
    (case l646 => k_is)
    (case c646 => k_is)
    (case k646 => k_is)
    (case n160 => k_is)
    (case l160 => k_is)
    (case c160 => k_is)
    (case k160 => k_is)
    (case n157 => k_is)
    (case l157 => k_is)
    (case c157 => k_is)
    (case k157 => k_is)
    (case n153 => k_is)
    (case l153 => k_is)
    (case c153 => k_is)
    (case k153 => k_is)
    (case n158 => k_is)
    (case l158 => k_is)
    (case c158 => k_is)
    (case k158 => k_is)
    (case n162 => k_is)
    (case l162 => k_is)
    (case c162 => k_is)
    (case k162 => k_is)
    (case z_all => k_is)
    (case z_int => k_is)
    (case z_isinstance => k_is)
    (case z_len => k_is)
    (case z_list => k_is)
    (case z_max => k_is)
    (case z_ord => k_is)
    (case z_range => k_is)
    (case z_str => k_is)
    (case z_tuple => k_is)
    (case y_BASE => k_is)
    (case x_BASE => first | rfl | exact ⟨_, rfl⟩)
    (case y_BEGIN => k_is)
    (case x_BEGIN => first | rfl | exact ⟨_, rfl⟩)
    (case y_FIGURES => k_is)
    (case x_FIGURES => first | rfl | exact ⟨_, rfl⟩)
    (case y_HALF => k_is)
    (case x_HALF => first | rfl | exact ⟨_, rfl⟩)
    (case y_LEAST => k_is)
    (case x_LEAST => first | rfl | exact ⟨_, rfl⟩)
    (case y_MOST_FIGURES => k_is)
    (case x_MOST_FIGURES => first | rfl | exact ⟨_, rfl⟩)
    (case y_MOST_SEAL => k_is)
    (case x_MOST_SEAL => first | rfl | exact ⟨_, rfl⟩)
    (case y_PIECE => k_is)
    (case x_PIECE => first | rfl | exact ⟨_, rfl⟩)
