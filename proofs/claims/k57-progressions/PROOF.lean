import PyProof.Rows.All
import Wide.All
import OpenK.AllK
import Wide.FinOn
import HandS.ForMost
import HandS.ForExc
import HandS.Lambda
import HandS.Nested
import HandS.HeadWalk
import KE.DatumMoreOrd
import KE.DatumIndex
import KE.SortData
import KE.SortKeyHeap
import HandS.Dict
import HandS.Small
import KE.KeyNested
import KE.KDictWalk
import HandS.SetKeys
import HandS.DictComp
import HandS.TupLen
import KE.KSortKey
import KE.KDictSum
import HandS.Conv
import HandS.TupAny
import HandS.TupMul
import HandS.TupLe
import HandS.Star
import HandS.Style
import HandS.CallSlots
import HandS.Zip
import KE.GoesMore
import PyProof.EnumMake
import HandS.Text
import HandS.WideBits
import PyProof.TupleOfStr
import PyProof.ListStr
import KE.DataMinMax
import HandS.SortKw
import HandS.IsInst
import HandS.Property
import HandS.SlotsOwn
import PyProof.InstNe
import HandS.HeadHook4
import KE.KDictZip
import HandS.Zip0
import HandS.Head0
import HandS.Head1
import HandS.Head2
import HandS.HeadEnd
import PySem.Challenge.RW_partedlots_k57_whole_progressions
set_option Elab.async false
set_option linter.all false
set_option autoImplicit false
set_option maxRecDepth 100000
set_option maxHeartbeats 4000000
namespace Zp
open PySem PySem.Spec PyProof.Rows L2
/-! ### a dict by its entries -/
def rawO (a : Addr) (es : Array DictEntry) (ep : Nat) : HO := .ext fun h => h.DictRaw a es ep ∧ (a == sysModules) = false ∧ es.size ≤ sizeLine
theorem rawO_ok {P : Program} {w : World} {H : Hp} {h : Heap} {a : Addr} {es : Array DictEntry} {ep : Nat} (hr : h.DictRaw a es ep) (hs : (a == sysModules) = false) (hz : es.size ≤ sizeLine) : ObjOk P w H h a (rawO a es ep) :=
  ⟨⟨hr, hs, hz⟩, let ⟨o, e, _⟩ := hr; ⟨o, e⟩, fun h1 h2 ⟨r, s, z⟩ k => ⟨r.at k, s, z⟩⟩
theorem rawO_of {P : Program} {w : World} {H : Hp} {h : Heap} {a : Addr} {es : Array DictEntry} {ep : Nat} (x : ObjOk P w H h a (rawO a es ep)) : h.DictRaw a es ep ∧ (a == sysModules) = false ∧ es.size ≤ sizeLine := x.1
mutual
/-- v is the key k -/
inductive NKv (K : PySem.W.Frag) (H : Hp) : NestedKey → V → Prop
  | none : NKv K H .none .non
  | num (i : Int) : NKv K H (.num i) (.int i)
  | text (x : Str) : NKv K H (.text x) (.str x)
  | tup {a : Addr} {xs : List V} {ks : List NestedKey} : SqT K H a xs → NKvs K H ks xs → NKv K H (.tup ks) (.ref a)
inductive NKvs (K : PySem.W.Frag) (H : Hp) : List NestedKey → List V → Prop
  | nil : NKvs K H [] []
  | cons {k : NestedKey} {v : V} {ks : List NestedKey} {vs : List V} : NKv K H k v → NKvs K H ks vs → NKvs K H (k :: ks) (v :: vs)
end
mutual
theorem NKv.is {X : Cx} {pins : List (Addr × Obj)} {σ : L2.St} {H : Hp} {s : Shared} (I : L2.Inv X pins σ H s) : ∀ {k : NestedKey} {v : V} {u : Value}, NKv X.K H k v → RelV v u → NestedIs s.heap k u
  | _, _, _, .none, r => by cases r; exact .none
  | _, _, _, .num i, r => by obtain ⟨t, rfl⟩ := r; exact .int i t
  | _, _, _, .text x, r => by obtain ⟨t, rfl⟩ := r; exact .text x t
  | _, _, _, .tup h q, r => by
    cases r
    obtain ⟨its, rv, ⟨o, e1, e2, n, e3⟩, _⟩ := I.tuple h
    exact .tup e1 e2 e3 (by simpa using NKvs.is I q rv)
theorem NKvs.is {X : Cx} {pins : List (Addr × Obj)} {σ : L2.St} {H : Hp} {s : Shared} (I : L2.Inv X pins σ H s) : ∀ {k : List NestedKey} {v : List V} {u : List Value}, NKvs X.K H k v → Vals v u → NestedAll s.heap k u
  | _, _, _, .nil, r => by cases r; exact .nil
  | _, _, _, .cons a b, r => by
    cases r with
    | cons r1 r2 => exact .cons (NKv.is I a r1) (NKvs.is I b r2)
end
/-- tuples stay -/
def TupK (K : PySem.W.Frag) (H H' : Hp) : Prop := ∀ a xs, SqT K H a xs → SqT K H' a xs
mutual
theorem NKv.keep {K : PySem.W.Frag} {H H' : Hp} (g : TupK K H H') : ∀ {k : NestedKey} {v : V}, NKv K H k v → NKv K H' k v
  | _, _, .none => .none
  | _, _, .num i => .num i
  | _, _, .text x => .text x
  | _, _, .tup h q => .tup (g _ _ h) (NKvs.keep g q)
theorem NKvs.keep {K : PySem.W.Frag} {H H' : Hp} (g : TupK K H H') : ∀ {k : List NestedKey} {v : List V}, NKvs K H k v → NKvs K H' k v
  | _, _, .nil => .nil
  | _, _, .cons a b => .cons (NKv.keep g a) (NKvs.keep g b)
end
theorem tupK_upd {K : PySem.W.Frag} {H : Hp} {a : Addr} {o u : HO} (e : H a = some u) (hu : ∀ xs, u ≠ .tup xs) (hf : ∀ od xs, u ≠ .frz od (.tup xs)) : TupK K H (upd H a o) := fun b xs h => by
  rcases h with (h | ⟨od, h⟩) | h
  · exact .inl (.inl (by rw [upd_ne fun z => ?_]; exact h; rw [z, e] at h; cases h; exact hu _ rfl))
  · exact .inl (.inr ⟨od, by rw [upd_ne fun z => ?_]; exact h; rw [z, e] at h; cases h; exact hf _ _ rfl⟩)
  · exact .inr h
/-- entries by values -/
structure EntOk (K : PySem.W.Frag) (w : World) (H : Hp) (p : NestedKey × V) (e : DictEntry) : Prop where
  key : ∃ kv, RelV kv e.key ∧ NKv K H p.1 kv
  hash : e.hash = p.1.hash w
  val : RelV p.2 e.val
structure DLie (K : PySem.W.Frag) (w : World) (H : Hp) (kvs : List (NestedKey × V)) (es : Array DictEntry) : Prop where
  ents : Paired (EntOk K w H) kvs es.toList
  nd : (kvs.map (·.1)).Nodup
  dp : ∀ p ∈ kvs, p.1.depth ≤ 8
theorem DLie.len {K : PySem.W.Frag} {w : World} {H : Hp} {kvs : List (NestedKey × V)} {es : Array DictEntry} (h : DLie K w H kvs es) : kvs.length = es.size := by rw [Paired.length h.ents, Array.length_toList]
def byVal : NestedKey → Bool
  | .num _ => true
  | .text _ => true
  | _ => false
def isTp : NestedKey → Bool
  | .tup _ => true
  | _ => false
def toKey : NestedKey → Key
  | .num i => .inl i
  | .text x => .inr x
  | _ => .inl 0
theorem toKey_inj : ∀ {a b : NestedKey}, byVal a = true → byVal b = true → toKey a = toKey b → a = b
  | .num i, .num j, _, _, e => by simp [toKey] at e; rw [e]
  | .text i, .text j, _, _, e => by simp [toKey] at e; rw [e]
  | .num i, .text j, _, _, e => by simp [toKey] at e
  | .text i, .num j, _, _, e => by simp [toKey] at e
theorem NKv.kV {K : PySem.W.Frag} {H : Hp} {k : NestedKey} {v : V} (hb : byVal k = true) (h : NKv K H k v) : v = L2.kV (toKey k) := by
  cases h with
  | num i => rfl
  | text x => rfl
  | none => exact absurd hb Bool.false_ne_true
  | tup a b => exact absurd hb Bool.false_ne_true
theorem hash_key {P : Program} {w : World} : ∀ {k : NestedKey}, byVal k = true → k.hash w = (mixKind P w).hash (toKey k)
  | .num i, _ => rfl
  | .text x, _ => rfl
section
variable {K : PySem.W.Frag} {P : Program} {w : World} {H : Hp} {h : Heap} {a : Addr}
def kKV (kvs : List (NestedKey × V)) : List (Key × V) := kvs.map fun p => (toKey p.1, p.2)
theorem val_k {k : NestedKey} : ∀ {kvs : List (NestedKey × V)}, byVal k = true → (∀ p ∈ kvs, byVal p.1 = true) → valV (kKV kvs) (toKey k) = valV kvs k
  | [], _, _ => rfl
  | p :: r, hk, ha => by
    have ih := val_k (kvs := r) hk fun q hq => ha q (List.mem_cons_of_mem _ hq)
    unfold kKV at ih ⊢
    rw [List.map_cons]
    by_cases e : p.1 = k
    · rw [valV_pos (p := p) e, valV_pos (p := (toKey p.1, p.2)) (by rw [e])]
    · rw [valV_neg (p := p) e, valV_neg (p := (toKey p.1, p.2)) fun z => e (toKey_inj (ha p List.mem_cons_self) hk z)]
      exact ih
theorem nodup_k : ∀ {kvs : List (NestedKey × V)}, (∀ p ∈ kvs, byVal p.1 = true) → (kvs.map (·.1)).Nodup → ((kKV kvs).map (·.1)).Nodup
  | [], _, _ => List.nodup_nil
  | p :: r, ha, hn => by
    rw [List.map_cons, List.nodup_cons] at hn
    unfold kKV
    rw [List.map_cons, List.map_cons, List.nodup_cons]
    refine ⟨fun z => hn.1 ?_, nodup_k (fun q hq => ha q (List.mem_cons_of_mem _ hq)) hn.2⟩
    rw [List.map_map] at z
    obtain ⟨q, hq, e⟩ := List.mem_map.mp z
    exact List.mem_map.mpr ⟨q, hq, toKey_inj (ha q (List.mem_cons_of_mem _ hq)) (ha p List.mem_cons_self) e⟩
theorem k_tab {kvs : List (NestedKey × V)} {es : Array DictEntry} {ep : Nat} (hr : h.DictRaw a es ep) (hd : DLie K w H kvs es) (hb : ∀ p ∈ kvs, byVal p.1 = true) : ∃ vs, KV (kKV kvs) vs ∧ h.DictOf (mixKind P w) a vs := by
  have main : ∀ {kvs : List (NestedKey × V)} {l : List DictEntry}, Paired (EntOk K w H) kvs l → (∀ p ∈ kvs, byVal p.1 = true) → ∃ vs, KV (kKV kvs) vs ∧ Pairs (mixKind P w) l vs ∧ ∀ e ∈ l, ∃ k, (mixKind P w).is k e.key = true ∧ e.hash = (mixKind P w).hash k := by
    intro kvs l r
    induction r with
    | nil => exact fun _ => ⟨[], .nil, .nil, fun e he => by simp at he⟩
    | @cons p e ps es r1 r2 ih =>
      intro hb
      obtain ⟨vs, h1, h2, h3⟩ := ih fun q hq => hb q (List.mem_cons_of_mem _ hq)
      have hp := hb p List.mem_cons_self
      obtain ⟨kv, rk, nk⟩ := r1.key
      have rk' : RelV (L2.kV (toKey p.1)) e.key := by rw [← nk.kV hp]; exact rk
      refine ⟨(toKey p.1, e.val) :: vs, .cons ⟨rfl, r1.val⟩ h1, .cons (kV_is rk') rfl h2, fun e' he => ?_⟩
      rcases List.mem_cons.mp he with z | z
      · subst z; exact ⟨toKey p.1, kV_is rk', by rw [r1.hash]; exact hash_key hp⟩
      · exact h3 e' z
  obtain ⟨vs, h1, h2, h3⟩ := main hd.ents hb
  obtain ⟨o, e1, e2, e3⟩ := hr
  refine ⟨vs, h1, o, es, ep, e1, e2, e3, fun e he => h3 e (by simpa using he), h2, ?_⟩
  rw [← KV.keys h1]
  exact nodup_k hb hd.nd
/-- the keys are tuples -/
abbrev NT (K : PySem.W.Frag) (H : Hp) : List (NestedKey × V) → List (NestedKey × Addr × Value) → Prop := Paired fun p q => p.1 = q.1 ∧ NKv K H p.1 (.ref q.2.1) ∧ RelV p.2 q.2.2
theorem n_tab {X : Cx} {pins : List (Addr × Obj)} {σ : L2.St} {s : Shared} (I : L2.Inv X pins σ H s) {kvs : List (NestedKey × V)} {es : Array DictEntry} {ep : Nat} (hr : s.heap.DictRaw a es ep) (hd : DLie X.K X.w H kvs es) (hb : ∀ p ∈ kvs, isTp p.1 = true) :
    ∃ xs, NT X.K H kvs xs ∧ s.heap.DictOfH (nestedKind X.prog X.w) a xs := by
  have main : ∀ {kvs : List (NestedKey × V)} {l : List DictEntry}, Paired (EntOk X.K X.w H) kvs l → (∀ p ∈ kvs, isTp p.1 = true) → (∀ p ∈ kvs, p.1.depth ≤ 8) → ∃ xs, NT X.K H kvs xs ∧ l = xs.map (entryOfKey (nestedKind X.prog X.w)) ∧ ∀ x ∈ xs, (nestedKind X.prog X.w).is s.heap x.1 x.2.1 := by
    intro kvs l r
    induction r with
    | nil => exact fun _ _ => ⟨[], .nil, rfl, fun e he => by simp at he⟩
    | @cons p e ps es r1 r2 ih =>
      intro hb hdp
      obtain ⟨xs, h1, h2, h3⟩ := ih (fun q hq => hb q (List.mem_cons_of_mem _ hq)) fun q hq => hdp q (List.mem_cons_of_mem _ hq)
      have hp := hb p List.mem_cons_self
      obtain ⟨kv, rk, nk⟩ := r1.key
      cases hk : p.1 with
      | tup ks =>
        have nk' := nk
        rw [hk] at nk'
        cases nk' with
        | @tup b _ _ sq nks =>
        have ek : e.key = .ref b := rk
        refine ⟨(p.1, b, e.val) :: xs, .cons ⟨rfl, nk, r1.val⟩ h1, ?_, fun x hx => ?_⟩
        · rw [List.map_cons, h2]
          congr 1
          obtain ⟨h0, k0, v0⟩ := e
          have eh : h0 = p.1.hash X.w := r1.hash
          have ek : k0 = .ref b := ek
          rw [eh, ek]
          rfl
        · rcases List.mem_cons.mp hx with z | z
          · subst z; exact ⟨nk.is I rfl, hdp p List.mem_cons_self⟩
          · exact h3 x z
      | _ => rw [hk] at hp; cases hp
  obtain ⟨xs, h1, h2, h3⟩ := main hd.ents hb hd.dp
  obtain ⟨o, e1, e2, e3⟩ := hr
  refine ⟨xs, h1, o, es, ep, e1, e2, e3, h2, h3, ?_⟩
  have ek : kvs.map (·.1) = xs.map (·.1) := by
    have go : ∀ {kvs : List (NestedKey × V)} {xs : List (NestedKey × Addr × Value)}, NT X.K H kvs xs → kvs.map (·.1) = xs.map (·.1) := by
      intro kvs xs r
      induction r with
      | nil => rfl
      | cons r1 r2 ih => rw [List.map_cons, List.map_cons, ih, r1.1]
    exact go h1
  rw [← ek]
  exact hd.nd
end
/-! ### back to entries -/
section
variable {K : PySem.W.Frag} {P : Program} {w : World} {H : Hp} {h : Heap} {a : Addr}
theorem put_k {k : NestedKey} {v : V} {kvs : List (NestedKey × V)} (hk : byVal k = true) (ha : ∀ p ∈ kvs, byVal p.1 = true) : kKV (putK kvs k v) = putK (kKV kvs) (toKey k) v := by
  have e : ((kKV kvs).any fun kv => decide (kv.1 = toKey k)) = kvs.any fun kv => decide (kv.1 = k) := by rw [valV_any, valV_any, val_k hk ha]
  unfold putK
  rw [e]
  by_cases q : (kvs.any fun kv => decide (kv.1 = k)) = true
  · rw [if_pos q, if_pos q]
    unfold kKV
    rw [List.map_map, List.map_map]
    refine List.map_congr_left fun p hp => ?_
    show (toKey (if p.1 = k then (p.1, v) else p).1, (if p.1 = k then (p.1, v) else p).2) = if toKey p.1 = toKey k then (toKey p.1, v) else (toKey p.1, p.2)
    by_cases e : p.1 = k
    · rw [if_pos e, if_pos (by rw [e])]
    · rw [if_neg e, if_neg fun z => e (toKey_inj (ha p hp) hk z)]
  · rw [if_neg q, if_neg q]
    unfold kKV
    rw [List.map_append]; rfl
theorem put_all {κ : Type} [DecidableEq κ] {f : κ → Prop} {k : κ} {v : V} {kvs : List (κ × V)} (hk : f k) (ha : ∀ p ∈ kvs, f p.1) : ∀ p ∈ putK kvs k v, f p.1 := fun p hp => by
  unfold putK at hp
  split at hp
  · obtain ⟨q, hq, e⟩ := List.mem_map.mp hp
    by_cases z : q.1 = k
    · rw [if_pos z] at e; rw [← e]; exact ha q hq
    · rw [if_neg z] at e; rw [← e]; exact ha q hq
  · rcases List.mem_append.mp hp with z | z
    · exact ha p z
    · rw [List.mem_singleton.mp z]; exact hk
theorem from_k {kvs : List (NestedKey × V)} {vs : List (Key × Value)} (hb : ∀ p ∈ kvs, byVal p.1 = true) (hdp : ∀ p ∈ kvs, p.1.depth ≤ 8) (r : KV (kKV kvs) vs) (d : h.DictOf (mixKind P w) a vs) : ∃ es ep, h.DictRaw a es ep ∧ DLie K w H kvs es := by
  obtain ⟨o, es, ep, e1, e2, e3, hk, hp, hn⟩ := d
  refine ⟨es, ep, ⟨o, e1, e2, e3⟩, ?_, ?_, hdp⟩
  · have hk' : ∀ e ∈ es.toList, ∃ k, (mixKind P w).is k e.key = true ∧ e.hash = (mixKind P w).hash k := fun e he => hk e (by simpa using he)
    clear hk hn e3 hdp
    generalize es.toList = l at hp hk'
    have go : ∀ {kvs : List (NestedKey × V)} {l : List DictEntry} {vs : List (Key × Value)}, KV (kKV kvs) vs → (∀ p ∈ kvs, byVal p.1 = true) → Pairs (mixKind P w) l vs → (∀ e ∈ l, ∃ k, (mixKind P w).is k e.key = true ∧ e.hash = (mixKind P w).hash k) → Paired (EntOk K w H) kvs l := by
      intro kvs
      induction kvs with
      | nil =>
        intro l vs r hb hp hk
        unfold kKV at r
        cases r
        cases hp
        exact .nil
      | cons p ps ih =>
        intro l vs r hb hp hk
        unfold kKV at r
        rw [List.map_cons] at r
        cases r with
        | @cons _ q _ qs r1 r2 =>
        cases hp with
        | @cons e _ es _ p1 p2 p3 =>
        refine .cons ?_ (ih r2 (fun x hx => hb x (List.mem_cons_of_mem _ hx)) p3 fun x hx => hk x (List.mem_cons_of_mem _ hx))
        have bp := hb p List.mem_cons_self
        obtain ⟨rk, rv⟩ := r1
        have rk : toKey p.1 = q.1 := rk
        have p1 : keyIs q.1 e.key = true := p1
        rw [← rk] at p1
        obtain ⟨k', is', hh⟩ := hk e List.mem_cons_self
        have ek : k' = toKey p.1 := (mixKind P w).inj _ _ _ is' p1
        refine ⟨⟨L2.kV (toKey p.1), ?_, ?_⟩, ?_, by rw [p2]; exact rv⟩
        · rcases keyIs_shape p1 with ⟨i, t, e1, e2⟩ | ⟨x, t, e1, e2⟩
          · rw [e1, e2]; exact ⟨t, rfl⟩
          · rw [e1, e2]; exact ⟨t, rfl⟩
        · cases hp1 : p.1 with
          | num i => exact .num i
          | text x => exact .text x
          | none => rw [hp1] at bp; exact absurd bp Bool.false_ne_true
          | tup ks => rw [hp1] at bp; exact absurd bp Bool.false_ne_true
        · rw [hh, ek, hash_key (P := P) bp]
    exact go r hb hp hk'
  · have go : ∀ {kvs : List (NestedKey × V)}, (∀ p ∈ kvs, byVal p.1 = true) → ((kKV kvs).map (·.1)).Nodup → (kvs.map (·.1)).Nodup := by
      intro kvs
      induction kvs with
      | nil => exact fun _ _ => List.nodup_nil
      | cons p ps ih =>
        intro hb hn
        unfold kKV at hn
        rw [List.map_cons, List.map_cons, List.nodup_cons] at hn
        rw [List.map_cons, List.nodup_cons]
        refine ⟨fun z => hn.1 ?_, ih (fun q hq => hb q (List.mem_cons_of_mem _ hq)) hn.2⟩
        obtain ⟨q, hq, e⟩ := List.mem_map.mp z
        rw [List.map_map]
        exact List.mem_map.mpr ⟨q, hq, by show toKey q.1 = toKey p.1; rw [e]⟩
    exact go hb (by rw [KV.keys r]; exact hn)
theorem NT.val {kvs : List (NestedKey × V)} {xs : List (NestedKey × Addr × Value)} (r : NT K H kvs xs) (k : NestedKey) : RelO (valV kvs k) ((atKey xs k).map (·.2)) := by
  induction r with
  | nil => exact True.intro
  | @cons p q ps qs h t ih =>
    obtain ⟨h1, _, h2⟩ := h
    by_cases e : p.1 = k
    · have e' : q.1 = k := h1.symm.trans e
      have b : atKey (q :: qs) k = some q.2 := by simp [atKey, List.find?_cons, e']
      rw [valV_pos e, b]; exact h2
    · have e' : ¬ q.1 = k := fun z => e (h1.trans z)
      have b : atKey (q :: qs) k = atKey qs k := by simp [atKey, List.find?_cons, e']
      rw [valV_neg e, b]; exact ih
theorem NT.put {kvs : List (NestedKey × V)} {xs : List (NestedKey × Addr × Value)} (r : NT K H kvs xs) {k : NestedKey} {b : Addr} {y : V} {u : Value} (hb : NKv K H k (.ref b)) (ry : RelV y u) :
    NT K H (putK kvs k y) (storedH xs k b u) := by
  have e : (kvs.any fun kv => decide (kv.1 = k)) = (atKey xs k).isSome := by
    rw [valV_any, (r.val k).isSome_eq, Option.isSome_map]
  unfold putK storedH
  rw [e]
  by_cases q : (atKey xs k).isSome = true
  · rw [if_pos q, if_pos q]
    clear q e
    induction r with
    | nil => exact .nil
    | @cons p q ps qs h t ih =>
      rw [List.map_cons, List.map_cons]
      refine .cons ?_ ih
      obtain ⟨h1, h2, h3⟩ := h
      unfold PySem.putAt
      by_cases e : p.1 = k
      · rw [if_pos e, if_pos (h1.symm.trans e)]; exact ⟨h1, h2, ry⟩
      · rw [if_neg e, if_neg (fun z => e (h1.trans z))]; exact ⟨h1, h2, h3⟩
  · rw [if_neg q, if_neg q]; exact Paired.snoc r ⟨rfl, hb, ry⟩
theorem NT.keep {H' : Hp} {kvs : List (NestedKey × V)} {xs : List (NestedKey × Addr × Value)} (g : TupK K H H') (r : NT K H kvs xs) : NT K H' kvs xs := Paired.mapP r fun _ _ z => ⟨z.1, z.2.1.keep g, z.2.2⟩
theorem NT.keys : ∀ {kvs : List (NestedKey × V)} {xs : List (NestedKey × Addr × Value)}, NT K H kvs xs → kvs.map (·.1) = xs.map (·.1) := by
  intro kvs xs r
  induction r with
  | nil => rfl
  | cons r1 r2 ih => rw [List.map_cons, List.map_cons, ih, r1.1]
theorem from_n {kvs : List (NestedKey × V)} {xs : List (NestedKey × Addr × Value)} (hdp : ∀ p ∈ kvs, p.1.depth ≤ 8) (r : NT K H kvs xs) (d : h.DictOfH (nestedKind P w) a xs) : ∃ es ep, h.DictRaw a es ep ∧ DLie K w H kvs es := by
  obtain ⟨o, es, ep, e1, e2, e3, he, his, hn⟩ := d
  refine ⟨es, ep, ⟨o, e1, e2, e3⟩, ?_, by rw [r.keys]; exact hn, hdp⟩
  rw [he]
  clear he his hn hdp e3
  induction r with
  | nil => exact .nil
  | @cons p q ps qs h t ih =>
    rw [List.map_cons]
    exact .cons ⟨⟨.ref q.2.1, rfl, h.2.1⟩, by rw [h.1]; rfl, h.2.2⟩ ih
end
/-! ### what a dict holds; what it holds behind a store -/
def Cls (k : NestedKey) (kvs : List (NestedKey × V)) : Prop := (byVal k = true ∧ ∀ p ∈ kvs, byVal p.1 = true) ∨ (isTp k = true ∧ ∀ p ∈ kvs, isTp p.1 = true)
def NGet (K : PySem.W.Frag) (w : World) (H : Hp) (a : Addr) (y : V) (r : Option V) : Prop := ∃ kvs es ep k, Rd H a (rawO a es ep) ∧ DLie K w H kvs es ∧ NKv K H k y ∧ k.depth ≤ 8 ∧ Cls k kvs ∧ r = valV kvs k
def NPut (K : PySem.W.Frag) (w : World) (H : Hp) (a : Addr) (y v : V) (Q : Hp → Prop) : Prop := ∃ kvs es ep k, H a = some (rawO a es ep) ∧ DLie K w H kvs es ∧ NKv K H k y ∧ k.depth ≤ 8 ∧ Cls k kvs ∧ kvs.length < sizeLine ∧
  ∀ es' ep', DLie K w (upd H a (rawO a es' ep')) (putK kvs k v) es' → Q (upd H a (rawO a es' ep'))
section
variable {X : Cx} {pins : List (Addr × Obj)} {σ : L2.St} {H : Hp} {s : Shared} {a : Addr} {y v : V} {u r : Value} {o : Option V} {A : Around} {E : Value → Shared → Prop}
theorem raw_at {es : Array DictEntry} {ep : Nat} (I : L2.Inv X pins σ H s) (e : Rd H a (rawO a es ep)) : s.heap.DictRaw a es ep ∧ (a == sysModules) = false ∧ es.size ≤ sizeLine := rawO_of (P := X.prog) (w := X.w) (H := H) (e.ok I.hok)
theorem NKv.ref_of {K : PySem.W.Frag} {k : NestedKey} (ht : isTp k = true) (h : NKv K H k y) : ∃ b, y = .ref b := by
  cases h with
  | tup a b => exact ⟨_, rfl⟩
  | _ => exact absurd ht Bool.false_ne_true
theorem room_n (hu : A.units + 9 < cLine) : (nestedKind X.prog X.w).room A.in1 := by
  show A.in1.units + 8 < cLine
  have : A.in1.units = A.units + 1 := rfl
  omega
theorem n_getItem {Q : Value → Shared → Prop} (hu : A.units + 9 < cLine) (I : L2.Inv X pins σ H s) (g : NGet X.K X.w H a y (some v)) (ry : RelV y u) (h : ∀ w' s', L2.Inv X pins σ H s' → RelV v w' → Q w' s') :
    wpAny (model X.prog X.w) A (getItem (.ref a) u) Q E s := by
  obtain ⟨kvs, es, ep, k, e, hd, nk, dk, c, l⟩ := g
  obtain ⟨hr, hs, hz⟩ := raw_at I e
  rcases c with ⟨bk, ba⟩ | ⟨tk, ta⟩
  · obtain ⟨vs, rel, dd⟩ := k_tab hr hd ba
    rw [nk.kV bk] at ry
    obtain ⟨w', hw, rw'⟩ := RelO.some_of (v := v) (o := valueAt vs (toKey k)) (by rw [l, ← val_k bk ba]; exact rel.val _)
    exact wpAny_getItem_of (kV_is ry) dd.mapOf hw (h w' _ (I.tok _) rw')
  · obtain ⟨xs, rel, dd⟩ := n_tab I hr hd ta
    obtain ⟨b, rfl⟩ := nk.ref_of tk
    cases (show u = Value.ref b from ry)
    obtain ⟨w', hw, rw'⟩ := RelO.some_of (v := v) (o := (atKey xs k).map (·.2)) (by rw [l]; exact rel.val k)
    obtain ⟨p, hp, hp2⟩ := Option.map_eq_some_iff.mp hw
    refine wpAny_getItem_heap (room_n hu) ⟨nk.is I rfl, dk⟩ dd hp ?_
    rw [hp2]
    exact h w' _ (I.tok _) rw'
theorem n_in {Q : Value → Shared → Prop} (hu : A.units + 9 < cLine) (I : L2.Inv X pins σ H s) (g : NGet X.K X.w H a y o) (ry : RelV y u) (h : ∀ s', L2.Inv X pins σ H s' → Q (.bool o.isSome) s') :
    wpAny (model X.prog X.w) A (compareOp .In u (.ref a)) Q E s := by
  obtain ⟨kvs, es, ep, k, e, hd, nk, dk, c, l⟩ := g
  obtain ⟨hr, hs, hz⟩ := raw_at I e
  rcases c with ⟨bk, ba⟩ | ⟨tk, ta⟩
  · obtain ⟨vs, rel, dd⟩ := k_tab hr hd ba
    rw [nk.kV bk] at ry
    refine wpAny_in_of (kV_is ry) hs dd.mapOf ?_
    rw [← (rel.val (toKey k)).isSome_eq, val_k bk ba, ← l]
    exact h _ (I.tok _)
  · obtain ⟨xs, rel, dd⟩ := n_tab I hr hd ta
    obtain ⟨b, rfl⟩ := nk.ref_of tk
    cases (show u = Value.ref b from ry)
    refine wpAny_in_heap (room_n hu) ⟨nk.is I rfl, dk⟩ hs dd ?_
    have q := (rel.val k).isSome_eq
    rw [Option.isSome_map] at q
    rw [← q, ← l]
    exact h _ (I.tok _)
theorem n_notIn {Q : Value → Shared → Prop} (hu : A.units + 9 < cLine) (I : L2.Inv X pins σ H s) (g : NGet X.K X.w H a y o) (ry : RelV y u) (h : ∀ s', L2.Inv X pins σ H s' → Q (.bool (!o.isSome)) s') :
    wpAny (model X.prog X.w) A (compareOp .NotIn u (.ref a)) Q E s := by
  obtain ⟨kvs, es, ep, k, e, hd, nk, dk, c, l⟩ := g
  obtain ⟨hr, hs, hz⟩ := raw_at I e
  rcases c with ⟨bk, ba⟩ | ⟨tk, ta⟩
  · obtain ⟨vs, rel, dd⟩ := k_tab hr hd ba
    rw [nk.kV bk] at ry
    refine wpAny_notIn_of (kV_is ry) hs dd.mapOf ?_
    rw [← (rel.val (toKey k)).isSome_eq, val_k bk ba, ← l]
    exact h _ (I.tok _)
  · obtain ⟨xs, rel, dd⟩ := n_tab I hr hd ta
    obtain ⟨b, rfl⟩ := nk.ref_of tk
    cases (show u = Value.ref b from ry)
    refine wpAny_notIn_heap (room_n hu) ⟨nk.is I rfl, dk⟩ hs dd ?_
    have q := (rel.val k).isSome_eq
    rw [Option.isSome_map] at q
    rw [← q, ← l]
    exact h _ (I.tok _)
/-- the dict behind a store -/
theorem n_stored {es : Array DictEntry} {ep : Nat} {h' : Heap} {es' : Array DictEntry} {ep' t' : Nat} (I : L2.Inv X pins σ H s) (e : H a = some (rawO a es ep)) (hs : (a == sysModules) = false) (hr : h'.DictRaw a es' ep') (hz : es'.size ≤ sizeLine) (sb : Heap.SameBut a s.heap h') :
    L2.Inv X pins σ (upd H a (rawO a es' ep')) { s with heap := h', toks := t' } :=
  d_write I (by rw [e]; exact True.intro) sb (let ⟨o, q, _⟩ := hr; ⟨o, q⟩) (rawO_ok hr hs hz)
theorem n_keep {es : Array DictEntry} {ep : Nat} {ob : HO} (e : H a = some (rawO a es ep)) : TupK X.K H (upd H a ob) := tupK_upd e (fun _ z => by cases z) fun _ _ z => by cases z
theorem n_setItem {Q : Unit → Shared → Prop} {R : Hp → Prop} (hu : A.units + 9 < cLine) (I : L2.Inv X pins σ H s) (g : NPut X.K X.w H a y v R) (ry : RelV y u) (rv : RelV v r) (h : ∀ H' s', L2.Inv X pins σ H' s' → R H' → Q () s') :
    wpAny (model X.prog X.w) A (setItem (.ref a) u r) Q E s := by
  obtain ⟨kvs, es, ep, k, e, hd, nk, dk, c, hl, q⟩ := g
  obtain ⟨hr, hs, hz⟩ := raw_at I (.inl e)
  have hpl : (putK kvs k v).length ≤ sizeLine := by have := length_putK kvs k v; omega
  rcases c with ⟨bk, ba⟩ | ⟨tk, ta⟩
  · obtain ⟨vs, rel, dd⟩ := k_tab hr hd ba
    have hl2 : vs.length = kvs.length := by rw [← rel.length]; unfold kKV; rw [List.length_map]
    rw [nk.kV bk] at ry
    refine wpAny_setItem_pairs (hsz := by rw [hl2]; omega) (kV_is ry) dd fun h' dd' sb => ?_
    have rel' : KV (kKV (putK kvs k v)) (stored vs (toKey k) r) := by rw [put_k bk ba]; exact rel.put _ rv
    obtain ⟨es', ep', hr', hd'⟩ := from_k (K := X.K) (H := H) (put_all (f := fun k => byVal k = true) bk ba) (put_all (f := fun k : NestedKey => k.depth ≤ 8) dk hd.dp) rel' dd'
    have hz' : es'.size ≤ sizeLine := by rw [← hd'.len]; exact hpl
    refine h _ _ (n_stored I e hs hr' hz' sb) (q es' ep' ⟨Paired.mapP hd'.ents fun p en z => ⟨let ⟨kv, r1, r2⟩ := z.key; ⟨kv, r1, r2.keep (n_keep (X := X) e)⟩, z.hash, z.val⟩, hd'.nd, hd'.dp⟩)
  · obtain ⟨xs, rel, dd⟩ := n_tab I hr hd ta
    obtain ⟨b, rfl⟩ := nk.ref_of tk
    cases (show u = Value.ref b from ry)
    have hl2 : xs.length = kvs.length := (Paired.length rel).symm
    refine wpAny_setItem_heap (hsz := by rw [hl2]; omega) (room_n hu) ⟨nk.is I rfl, dk⟩ dd fun h' dd' sb => ?_
    obtain ⟨es', ep', hr', hd'⟩ := from_n (K := X.K) (H := H) (put_all (f := fun k : NestedKey => k.depth ≤ 8) dk hd.dp) (rel.put nk rv) dd'
    have hz' : es'.size ≤ sizeLine := by rw [← hd'.len]; exact hpl
    refine h _ _ (n_stored I e hs hr' hz' sb) (q es' ep' ⟨Paired.mapP hd'.ents fun p en z => ⟨let ⟨kv, r1, r2⟩ := z.key; ⟨kv, r1, r2.keep (n_keep (X := X) e)⟩, z.hash, z.val⟩, hd'.nd, hd'.dp⟩)
end
end Zp

set_option Elab.async false
set_option linter.all false
set_option autoImplicit false
set_option maxRecDepth 100000
set_option maxHeartbeats 4000000
namespace Zp
open PySem PySem.Spec PyProof.Rows L2
section
variable {X : Cx}
def rIxN (K : PySem.W.Frag) (w : World) : R2 := fun x y H Q => ∃ a v, x = .ref a ∧ NGet K w H a y (some v) ∧ Q v H
theorem ix_n (hu : X.A.units + 9 < cLine) : IxR X (rIxN X.K X.w) := by
  intro value slice pins s σ H x y v u Q I rx ry h hs
  obtain ⟨a, z, rfl, g, q⟩ := h
  obtain rfl : v = Value.ref a := rx
  have hT : s.TypeIs (.ref a) "dict" := by
    obtain ⟨kvs, es, ep, k, e, _⟩ := g
    exact (raw_at I e).1.typeIs
  exact tail_any hT PySem.F.slot_dict_getitem.lookup (n_getItem hu I g ry fun w' s3 I3 rw' => ⟨z, H, I3, rw', q⟩) hs
def rInN (K : PySem.W.Frag) (w : World) (neg : Bool) : R2 := fun y x H Q => ∃ a o, x = .ref a ∧ NGet K w H a y o ∧ Q (.bl (if neg then !o.isSome else o.isSome)) H
theorem op_inN (hu : X.A.units + 9 < cLine) : OpR X (compareOp .In) (rInN X.K X.w false) := by
  intro pins s σ H y x u v Q I ry rx h
  obtain ⟨a, o, rfl, g, q⟩ := h
  obtain rfl : v = Value.ref a := rx
  exact n_in hu I g ry fun s3 I3 => ⟨.bl o.isSome, H, I3, rfl, q⟩
theorem op_ninN (hu : X.A.units + 9 < cLine) : OpR X (compareOp .NotIn) (rInN X.K X.w true) := by
  intro pins s σ H y x u v Q I ry rx h
  obtain ⟨a, o, rfl, g, q⟩ := h
  obtain rfl : v = Value.ref a := rx
  exact n_notIn hu I g ry fun s3 I3 => ⟨.bl (!o.isSome), H, I3, rfl, q⟩
def rSetN (K : PySem.W.Frag) (w : World) : TSet := fun o i v H Q => ∃ a, o = .ref a ∧ NPut K w H a i v Q
theorem set_n (hu : X.A.units + 9 < cLine) : PSet X (rSetN X.K X.w) := by
  intro pins s σ H o i v ov iv u Q I ro ri rv h
  obtain ⟨a, rfl, g⟩ := h
  obtain rfl : ov = Value.ref a := ro
  exact n_setItem hu I g ri rv fun H' s' I' q => ⟨H', I', q⟩
theorem PSet.or {t t' : TSet} (h : PSet X t) (h' : PSet X t') : PSet X (fun o i v H Q => t o i v H Q ∨ t' o i v H Q) := by
  intro pins s σ H o i v ov iv u Q I ro ri rv q
  rcases q with q | q
  · exact h pins s σ H o i v ov iv u Q I ro ri rv q
  · exact h' pins s σ H o i v ov iv u Q I ro ri rv q
def rGet1N (K : PySem.W.Frag) (w : World) : V → List V → Hp → VK → Prop := fun x xs H Q => ∃ a y o, x = .ref a ∧ xs = [y] ∧ NGet K w H a y o ∧ Q (o.getD .non) H
def rGet2N (K : PySem.W.Frag) (w : World) : V → List V → Hp → VK → Prop := fun x xs H Q => ∃ a y d o, x = .ref a ∧ xs = [y, d] ∧ NGet K w H a y o ∧ Q (o.getD d) H
theorem mt_get1N (hu : X.A.units + 9 < cLine) : MtR X "dict.get" (rGet1N X.K X.w) := by
  intro pins s σ H x xs v us Q I rx rxs h
  obtain ⟨a, y, o, rfl, rfl, ⟨kvs, es, ep, k, e, hd, nk, dk, c, l⟩, q⟩ := h
  obtain rfl : v = Value.ref a := rx
  obtain ⟨u, rfl, ry⟩ := rxs.one
  obtain ⟨hr, hs, hz⟩ := raw_at I e
  rcases c with ⟨bk, ba⟩ | ⟨tk, ta⟩
  · obtain ⟨vs, rel, dd⟩ := k_tab hr hd ba
    rw [nk.kV bk] at ry
    refine call_meetsIn PySem.F.slot_dict_get dd.typeIs PySem.F.entry_dict_get (PySem.F.args_dict_get_2 _ _) (meets_dict_get (mixKind X.prog X.w) a (kV_is ry) hs) ⟨_, dd.mapOf, ⟨_, H, I.tok _, ?_, q⟩⟩
    rw [l, ← val_k bk ba]
    exact (rel.val _).getD rfl
  · obtain ⟨xs, rel, dd⟩ := n_tab I hr hd ta
    obtain ⟨b, rfl⟩ := nk.ref_of tk
    cases (show u = Value.ref b from ry)
    refine call_meetsIn PySem.F.slot_dict_get dd.typeIs PySem.F.entry_dict_get (PySem.F.args_dict_get_2 _ _) (meetsH_dict_get (nestedKind X.prog X.w) a b hs) ⟨room_n hu, k, xs, ⟨nk.is I rfl, dk⟩, dd, ⟨_, H, I.tok _, ?_, q⟩⟩
    rw [l]
    exact (rel.val k).getD rfl
theorem mt_get2N (hu : X.A.units + 9 < cLine) : MtR X "dict.get" (rGet2N X.K X.w) := by
  intro pins s σ H x xs v us Q I rx rxs h
  obtain ⟨a, y, d, o, rfl, rfl, ⟨kvs, es, ep, k, e, hd, nk, dk, c, l⟩, q⟩ := h
  obtain rfl : v = Value.ref a := rx
  obtain ⟨u, r, rfl, ry, rd⟩ := rxs.two
  obtain ⟨hr, hs, hz⟩ := raw_at I e
  rcases c with ⟨bk, ba⟩ | ⟨tk, ta⟩
  · obtain ⟨vs, rel, dd⟩ := k_tab hr hd ba
    rw [nk.kV bk] at ry
    refine call_meetsIn PySem.F.slot_dict_get dd.typeIs PySem.F.entry_dict_get (PySem.F.args_dict_get_3 _ _ _) (meets_dict_get_default (mixKind X.prog X.w) a (kV_is ry) hs r) ⟨_, dd.mapOf, ⟨_, H, I.tok _, ?_, q⟩⟩
    rw [l, ← val_k bk ba]
    exact (rel.val _).getD rd
  · obtain ⟨xs, rel, dd⟩ := n_tab I hr hd ta
    obtain ⟨b, rfl⟩ := nk.ref_of tk
    cases (show u = Value.ref b from ry)
    refine call_meetsIn PySem.F.slot_dict_get dd.typeIs PySem.F.entry_dict_get (PySem.F.args_dict_get_3 _ _ _) (meetsH_dict_get_default (nestedKind X.prog X.w) a b hs r) ⟨room_n hu, k, xs, ⟨nk.is I rfl, dk⟩, dd, ⟨_, H, I.tok _, ?_, q⟩⟩
    rw [l]
    exact (rel.val k).getD rd
/-- d.setdefault(y, z) -/
def rSetdN (K : PySem.W.Frag) (w : World) : V → List V → Hp → VK → Prop := fun x xs H Q => ∃ a y d, x = .ref a ∧ xs = [y, d] ∧ ∃ o, NGet K w H a y o ∧ match o with
  | some v => Q v H
  | none => NPut K w H a y d (Q d)
theorem nput_done {pins : List (Addr × Obj)} {σ : L2.St} {H : Hp} {s : Shared} {a : Addr} {es es' : Array DictEntry} {ep ep' : Nat} {kvs' : List (NestedKey × V)} {h' : Heap} {t' : Nat} (I : L2.Inv X pins σ H s) (e : H a = some (rawO a es ep)) (hl : kvs'.length ≤ sizeLine)
    (hr' : h'.DictRaw a es' ep') (hd' : DLie X.K X.w H kvs' es') (sb : Heap.SameBut a s.heap h') : L2.Inv X pins σ (upd H a (rawO a es' ep')) { s with heap := h', toks := t' } ∧ DLie X.K X.w (upd H a (rawO a es' ep')) kvs' es' := by
  obtain ⟨hr, hs, hz⟩ := raw_at I (.inl e)
  have hz' : es'.size ≤ sizeLine := by rw [← hd'.len]; exact hl
  exact ⟨n_stored I e hs hr' hz' sb, ⟨Paired.mapP hd'.ents fun p en z => ⟨let ⟨kv, r1, r2⟩ := z.key; ⟨kv, r1, r2.keep (n_keep (X := X) e)⟩, z.hash, z.val⟩, hd'.nd, hd'.dp⟩⟩
theorem DictRaw.uniq {h : Heap} {a : Addr} {es es' : Array DictEntry} {ep ep' : Nat} (r : h.DictRaw a es ep) (r' : h.DictRaw a es' ep') : es = es' := by
  obtain ⟨o, e, _, d⟩ := r
  obtain ⟨o', e', _, d'⟩ := r'
  rw [e] at e'; cases e'
  rw [d] at d'; cases d'; rfl
theorem rawO_uniq {pins : List (Addr × Obj)} {σ : L2.St} {H : Hp} {s : Shared} {a : Addr} {es es' : Array DictEntry} {ep ep' : Nat} (I : L2.Inv X pins σ H s) (e : Rd H a (rawO a es ep)) (e' : Rd H a (rawO a es' ep')) : es = es' := DictRaw.uniq (raw_at I e).1 (raw_at I e').1
/-- storing by a comprehension -/
theorem n_dictSet {pins : List (Addr × Obj)} {σ : L2.St} {H : Hp} {s : Shared} {a : Addr} {y v : V} {u r : Value} {E : Value → Shared → Prop} {Q : Unit → Shared → Prop} {R : Hp → Prop} (hu : X.A.units + 9 < cLine) (I : L2.Inv X pins σ H s) (g : NPut X.K X.w H a y v R) (ry : RelV y u) (rv : RelV v r) (h : ∀ H' s', L2.Inv X pins σ H' s' → R H' → Q () s') :
    wpAny (model X.prog X.w) X.A (dictSet a u r) Q E s := by
  obtain ⟨kvs, es, ep, k, e, hd, nk, dk, c, hl, q⟩ := g
  obtain ⟨hr, hs, hz⟩ := raw_at I (.inl e)
  have hpl : (putK kvs k v).length ≤ sizeLine := by have := length_putK kvs k v; omega
  rcases c with ⟨bk, ba⟩ | ⟨tk, ta⟩
  · obtain ⟨vs, rel, dd⟩ := k_tab hr hd ba
    have hl2 : vs.length = kvs.length := by rw [← rel.length]; unfold kKV; rw [List.length_map]
    rw [nk.kV bk] at ry
    refine wpAny_dictSet_pairs (hsz := by rw [hl2]; omega) (kV_is ry) dd fun h' dd' sb => ?_
    have rel' : KV (kKV (putK kvs k v)) (stored vs (toKey k) r) := by rw [put_k bk ba]; exact rel.put _ rv
    obtain ⟨es', ep', hr', hd'⟩ := from_k (K := X.K) (H := H) (put_all (f := fun k => byVal k = true) bk ba) (put_all (f := fun k : NestedKey => k.depth ≤ 8) dk hd.dp) rel' dd'
    obtain ⟨I', d'⟩ := nput_done (t' := s.toks + 1) I e hpl hr' hd' sb
    exact h _ _ I' (q es' ep' d')
  · obtain ⟨xs, rel, dd⟩ := n_tab I hr hd ta
    obtain ⟨b, rfl⟩ := nk.ref_of tk
    cases (show u = Value.ref b from ry)
    have hl2 : xs.length = kvs.length := (Paired.length rel).symm
    have rm : (nestedKind X.prog X.w).room X.A := by show X.A.units + 8 < cLine; omega
    refine wpAny_dictSet_heap (hsz := by rw [hl2]; omega) rm ⟨nk.is I rfl, dk⟩ dd fun h' dd' sb => ?_
    obtain ⟨es', ep', hr', hd'⟩ := from_n (K := X.K) (H := H) (put_all (f := fun k : NestedKey => k.depth ≤ 8) dk hd.dp) (rel.put nk rv) dd'
    obtain ⟨I', d'⟩ := nput_done (t' := s.toks + (nestedKind X.prog X.w).draws k) I e hpl hr' hd' sb
    exact h _ _ I' (q es' ep' d')
/-- {} -/
def tNewN : TE := fun _ H Q => ∀ p, H p = none → Q (.ref p) (upd H p (rawO p #[] 0))
theorem raw_empty {P : Program} {w : World} {H : Hp} (h : Heap) (hb : sysModules < h.objs.size) : ObjOk P w H (h.push { cls := .type "dict", data := .dict #[] }) h.objs.size (rawO h.objs.size #[] 0) :=
  rawO_ok ⟨_, Heap.get?_push_size _ rfl, ⟨rfl, rfl, rfl⟩, rfl⟩ (beq_eq_false_iff_ne.mpr (Ne.symm (Nat.ne_of_lt hb))) (Nat.zero_le _)
theorem pe_newN {pos : Pos} : PE X (.Dict [] [] pos) tNewN := ⟨fun pins s σ H Q I h =>
  wpAny_Dict_empty ⟨.ref s.heap.objs.size, _, I.laid (a := s.heap.objs.size) (o := rawO s.heap.objs.size #[] 0) (t' := s.toks) (fun _ _ q => Heap.get?_push_of_some _ q) (Nat.le_refl _) (raw_empty s.heap I.big), rfl, h _ (I.hok.fresh (Nat.le_refl _))⟩⟩
/-- what is a dict -/
def IsN (H : Hp) (a : Addr) : Prop := ∃ es ep, Rd H a (rawO a es ep)
theorem isN_at {pins : List (Addr × Obj)} {σ : L2.St} {H : Hp} {s : Shared} {a : Addr} (I : L2.Inv X pins σ H s) (d : IsN H a) : s.TypeIs (.ref a) "dict" ∧ (∀ b, Value.ref a = .ref b → ∃ ob, s.heap.get? b = some ob ∧ ob.dict = none) := by
  obtain ⟨es, ep, e⟩ := d
  obtain ⟨⟨o, h1, h2, h3⟩, _, _⟩ := raw_at I e
  exact ⟨⟨o, h1, h2.1⟩, fun b q => by cases q; exact ⟨o, h1, h2.2.1⟩⟩
end
section
variable {prog : Program} {w : World} {A : Around} {E : Value → Shared → Prop} {s : Shared}
theorem meets_dict_lenR (d : Addr) (hd : (d == sysModules) = false) :
    MeetsIn prog w (Builtin.«dict.__len__» ⟨[.ref d], []⟩) (fun _ R s => ∃ es ep, s.heap.DictRaw d es ep ∧ R (.ok (.ret (.int es.size s.toks))) { s with toks := s.toks + 1 }) :=
  .of_wp fun A R s ⟨es, ep, ⟨o, ho, hc, hdat⟩, h⟩ => by
    show wpAny _ _ (dictSize d >>= _) _ _ s
    unfold dictSize
    refine wpAny_bind (wpAny_bind (wpAny_dictEntries ho hdat (wpAny_pure ?_)))
    show wpAny _ _ (Builtin.Dict.pendingCount d >>= _) _ _ s
    refine wpAny_bind (wpAny_pendingCount_other hd ?_)
    refine wpAny_ret_mkInt ?_
    rw [Nat.add_zero]; exact h
theorem wpAny_len_body_dictR {d : Addr} {es : Array DictEntry} {ep : Nat} {Q : Value → Shared → Prop} (hd : (d == sysModules) = false) (hm : s.heap.DictRaw d es ep) (hfit : (es.size : Int) < 2 ^ 63)
    (h : Q (.int es.size (s.toks + 1)) { s with toks := s.toks + 1 + 1 }) : wpAny (model prog w) A (Builtin.«len» ⟨[.ref d], []⟩) (fun fin s' => ∃ r, fin = .done (.ret r) ∧ Q r s') E s := by
  unfold Builtin.«len»
  refine wpAny_bind (m := oneArg "len" _) (wpAny_pure ?_)
  refine wpAny_bind (m := callSpecial? (.ref d) (Str.ofString "__len__")) (wpAny_callSpecial?_slot (name := Str.ofString "__len__") hm.typeIs F.slot_dict_len
    (call_meetsIn F.slot_dict_len hm.typeIs F.entry_dict_len (F.args_dict_len_1 _) (meets_dict_lenR d hd) ⟨es, ep, hm, ?_⟩))
  show wpAny _ _ _ _ _ { s with toks := s.toks + 1 }
  refine wpAny_bind (wpAny_holding (wpAny_pure ?_))
  refine wpAny_bind (wpAny_letGo ?_)
  show wpAny _ _ (if ((es.size : Nat) : Int) < 0 then _ else _) _ _ _
  rw [if_neg (by omega)]
  show wpAny _ _ (if ((es.size : Nat) : Int) ≥ 2 ^ 63 then _ else _) _ _ _
  rw [if_neg (by omega)]
  exact wpAny_bind (wpAny_mkInt (wpAny_pure ⟨_, rfl, h⟩))
end
def rLenN : List V → Hp → VK → Prop := fun xs H Q => ∃ (p : Addr) (es : Array DictEntry) (ep : Nat), xs = [.ref p] ∧ Rd H p (rawO p es ep) ∧ Q (.int ((es.size : Nat) : Int)) H
theorem call_lenN {X : Cx} : CallR X (.builtin "len") rLenN := by
  intro pins s σ H xs us Q I r h
  obtain ⟨p, es, ep, rfl, hp, q⟩ := h
  obtain ⟨u, rfl, rx⟩ := r.one
  obtain rfl : u = .ref p := rx
  obtain ⟨hr, hs, hz⟩ := raw_at I hp
  refine Calls.call_function_entry kind_len plain_len entry_len (args_len1 _) (wpAny_len_body_dictR hs hr (by rw [sizeLine_eq] at hz; omega) ?_)
  exact ⟨.int ((es.size : Nat) : Int), H, I.tok _, ⟨_, rfl⟩, q⟩
end Zp

set_option Elab.async false
set_option linter.all false
set_option autoImplicit false
set_option maxRecDepth 100000
set_option maxHeartbeats 4000000
namespace Zp
open PySem PySem.Spec PyProof.Rows L2
section
variable {X : Cx}
/-- a dict comprehension, whatever its keys: what holds of the new dict at A -/
def tDcN (K : PySem.W.Frag) (w : World) (wi : TI) (g : TG) (tt : TT) (tk tv : TE) (vs : List Nat) : TE := fun σ H Q => wi σ H fun Jt H1 => ∀ D, H1 D = none → ∃ Wn : Nat → Nat → Hp → Prop, (∃ m, Wn 0 m (upd H1 D (rawO D #[] 0))) ∧ ∀ i m H, Wn i m H →
  (Jt.stop i H ∧ Q (.ref D) H) ∨ (Jt.go i H ∧ ∃ Nx : Hp → Prop, (∀ H', Nx H' → ∃ m', m' < m ∧ Wn (i + 1) m' H') ∧ ∀ x H', Jt.yld i H x H' → g x (L2.wipe σ vs) H' fun σ2 Hb => L2.wipe σ2 vs = L2.wipe σ vs ∧ tt σ2 Hb fun b Hc =>
    if b = true then tk σ2 Hc fun y H4 => tv σ2 H4 fun z He => NPut K w He D y z Nx else Nx Hc)
theorem dcN_core {pins : List (Addr × Obj)} {s : Shared} {σ : L2.St} {H : Hp} {Q : VK} {kx vx tg iter : Expr} {ifs : List Expr} {scope : Scope} {own : List (Str × Nat)} {pos pos' : Pos} {wi : TI} {g : TG} {tt : TT} {tk tv : TE} {use : Option (Value → Sem Unit)} {Qf : Value → Shared → Prop}
    (hc : X.calm = true) (hN : X.N.Nodup) (hu : X.A.units + 9 < cLine) (I : L2.Inv X pins σ H s) (hi : PI X tg iter wi) (ok : BlkOk X.N X.env.scope scope own)
    (hg : ∀ (s : Shared) (H : Hp) (C : Addr) (cl : List (Str × Addr)) (fp : List Addr), PG (X.blk s H scope (compEnvC scope cl C X.env) fp) tg g) (ht : ∀ (s : Shared) (H : Hp) (C : Addr) (cl : List (Str × Addr)) (fp : List Addr), PTs (X.blk s H scope (compEnvC scope cl C X.env) fp) ifs tt)
    (hk : ∀ (s : Shared) (H : Hp) (C : Addr) (cl : List (Str × Addr)) (fp : List Addr), PE (X.blk s H scope (compEnvC scope cl C X.env) fp) kx tk)
    (he : ∀ (s : Shared) (H : Hp) (C : Addr) (cl : List (Str × Addr)) (fp : List Addr), PE (X.blk s H scope (compEnvC scope cl C X.env) fp) vx tv) (hs : ∀ x, foldedSetIterable iter X.env x = pure x)
    (h : tDcN X.K X.w wi g tt tk tv (own.map (·.2)) σ H Q)
    (hRR : ∀ D C s' m H', L2.Inv X pins σ H' s' → Q (.ref D) H' → s'.heap.Ns C m → FpOk X pins H' C → compPost (model X.prog X.w) X.A X.xe use Qf (.ref D) C (.ok .next) s') :
    wpAny (model X.prog X.w) X.A (comprehension (.DictComp kx vx [⟨tg, iter, ifs, 0⟩] scope pos) scope X.env pos' newDict false (eval iter X.env) use) Qf X.xe s := by
  have hfr : ∀ y ∈ scope.names, y.2 = .free → ∃ c, X.env.cells.lookup y.1 = some c := fun y hy e => by
    rcases ok.free y hy e with k | k
    · exact I.ok.has _ (.inl k)
    · exact I.ok.has _ (.inr k)
  refine wpAny_comprehension_free (use := use) rfl hs (closure_ok hfr) ok.kind (fun y hy e => by rw [ok.uniq y hy, e])
    (thn (hi.run pins s σ H _ I h) fun xv sa hx => thn hx fun itv sb h2 => ?_)
  obtain ⟨itr, fp, tnn, Jt, Hb, e, Ib, Tn, st2, fr2, q⟩ := h2
  subst e
  refine wpAny_newObj_type (newEnv_comp ?_)
  generalize hDd : sb.heap.objs.size = D
  have hDz : Hb D = none := Ib.hok.fresh (Nat.le_of_eq hDd)
  obtain ⟨Wn, ⟨mz, wz⟩, trn⟩ := q D hDz
  -- the new list
  generalize hsc : ({ sb with heap := sb.heap.push { cls := .type "dict", data := .dict #[] } } : Shared) = sc
  have Ic : L2.Inv X pins σ (upd Hb D (rawO D #[] 0)) sc := by
    rw [← hsc]
    refine Ib.laid (t' := sb.toks) (fun b o e => Heap.get?_push_of_some _ e) (Nat.le_of_eq hDd) ?_
    rw [← hDd]
    exact raw_empty sb.heap Ib.big
  have hh3 : sc.heap = sb.heap.push { cls := .type "dict", data := .dict #[] } := by rw [← hsc]
  have szz : ∀ b ∈ fp, b < sb.heap.objs.size := fun b hb => by
    obtain ⟨o, e, _⟩ := Tn.obj _ _ st2 b hb
    exact Heap.lt_size e
  have fr3 : ∀ b ∈ fp, FpOk X pins (upd Hb D (rawO D #[] 0)) b ∧ b < sc.heap.objs.size := fun b hb => by
    have hlt := szz b hb
    refine ⟨⟨?_, (fr2 b hb).2⟩, by rw [hh3, Heap.size_push]; exact Nat.lt_succ_of_lt hlt⟩
    rw [upd_ne (by rw [← hDd]; exact Nat.ne_of_lt hlt)]
    exact (fr2 b hb).1
  have stc : tnn 0 sc.heap := Tn.keep _ _ _ st2 fun b _ o e => by rw [hh3]; exact Heap.get?_push_of_some _ e
  have Id := block_start Ic ok hN fr3
  have pgg := hg sc (upd Hb D (rawO D #[] 0)) sc.heap.objs.size (cellsFrom (sc.heap.objs.size + 1) scope.names (cloFrom X.env.cells scope.names [])) fp
  have ptt := ht sc (upd Hb D (rawO D #[] 0)) sc.heap.objs.size (cellsFrom (sc.heap.objs.size + 1) scope.names (cloFrom X.env.cells scope.names [])) fp
  have pkk := hk sc (upd Hb D (rawO D #[] 0)) sc.heap.objs.size (cellsFrom (sc.heap.objs.size + 1) scope.names (cloFrom X.env.cells scope.names [])) fp
  have pee := he sc (upd Hb D (rawO D #[] 0)) sc.heap.objs.size (cellsFrom (sc.heap.objs.size + 1) scope.names (cloFrom X.env.cells scope.names [])) fp
  show codeAny _ _ (.compStart (.DictComp kx vx [⟨tg, iter, ifs, 0⟩] scope pos) 0 (.ref itr) (.ref D) (compEnvC scope (cellsFrom (sc.heap.objs.size + 1) scope.names (cloFrom X.env.cells scope.names [])) sc.heap.objs.size X.env)) (compPost (model X.prog X.w) X.A X.xe use Qf (.ref D) sc.heap.objs.size) { sc with heap := pushCells (sc.heap.push { cls := .type "dict", data := .dict #[] }) scope.names }
  have nofp : ∀ b ∈ fp, (upd Hb D (rawO D #[] 0)) b = none := fun b hb => (fr3 b hb).1.1
  generalize hcc : compEnvC scope (cellsFrom (sc.heap.objs.size + 1) scope.names (cloFrom X.env.cells scope.names [])) sc.heap.objs.size X.env = cee at Id pgg ptt pkk pee ⊢
  have clc : cee.locals = sc.heap.objs.size := by subst hcc; rfl
  generalize hHc : upd Hb D (rawO D #[] 0) = Hc at Ic Id pgg ptt pkk pee wz nofp fr3
  generalize hsd : ({ sc with heap := pushCells (sc.heap.push { cls := .type "dict", data := .dict #[] }) scope.names } : Shared) = sd4 at Id ⊢
  have std : tnn 0 sd4.heap := Tn.keep _ _ _ stc fun b _ o e => by rw [← hsd]; exact pushCells_keeps _ _ _ _ (Heap.get?_push_of_some _ e)
  have stays : ∀ {σ' : L2.St} {H' : Hp} {s' : Shared}, L2.Inv (X.blk sc Hc scope cee fp) [] σ' H' s' → (∀ b ∈ fp, H' b = none) → ∀ b ∈ fp, FpOk (X.blk sc Hc scope cee fp) [] H' b := fun {σ' H' s'} I' hn b hb =>
    ⟨hn b hb, (I'.ok.exf b hb).1, I'.ok.exfs b hb, .inl hb, fun x c e => (I'.ok.exf b hb).2 x c e, fun p hp => absurd (show p ∈ ([] : List (Addr × Obj)) ++ [] from hp) (by simp)⟩
  have lp : codeAny (model X.prog X.w) X.A (.compLoop (.DictComp kx vx [⟨tg, iter, ifs, 0⟩] scope pos) 0 (.ref itr) (.ref D) cee) (compPost (model X.prog X.w) X.A X.xe use Qf (.ref D) sc.heap.objs.size) sd4 := by
    refine compLoop_anyD (fun n s' => ∃ i H', L2.Inv (X.blk sc Hc scope cee fp) [] (L2.wipe σ (own.map (·.2))) H' s' ∧ tnn i s'.heap ∧ (∀ b ∈ fp, H' b = none) ∧ Wn i n H') ?_ mz ⟨0, Hc, Id, std, nofp, wz⟩
    rintro n se5 ⟨i, He, I5, sx, nx5, wx⟩
    rcases trn i n He wx with ⟨stop, qq⟩ | ⟨go, Nx, hNx, step⟩
    · have tdn := Tn.done (X.blk sc Hc scope cee fp) rfl rfl rfl hc i [] se5 _ He (fun _ _ => False) I5 (stays I5 nx5) sx stop
      refine thnF tdn fun r sf ⟨hre, If⟩ => ?_
      subst hre
      -- back in the def's context
      have Ig : L2.Inv X pins σ He sf := Ic.call' (ch := fp) If.os If.base If.hok If.bare fun b hb => ⟨(fr3 b hb).1.2.2.2.1, (fr3 b hb).1.2.1, (fr3 b hb).1.2.2.2.2.1, (fr3 b hb).1.2.2.2.2.2⟩
      have nCC : He sc.heap.objs.size = none := by
        have z : He cee.locals = none := If.free
        rw [clc] at z
        exact z
      obtain ⟨m, hn, _⟩ := If.loc
      have hn : sf.heap.Ns cee.locals m := hn
      rw [clc] at hn
      exact hRR D sc.heap.objs.size sf m He Ig qq hn (Ic.fpOk (Nat.le_refl _) nCC)
    · have tit := Tn.item (X.blk sc Hc scope cee fp) rfl rfl rfl hc i [] se5 _ He (fun _ _ => False) I5 (stays I5 nx5) sx go
      refine thnF tit fun r sf ⟨u, hre, h6⟩ => ?_
      subst hre
      refine thnF h6 fun _ sg ⟨x, Hg, Ig, rg, yg, stg, ng⟩ => ?_
      have Ip := Ig.pinned (stays Ig ng) (Tn.obj _ _ stg)
      refine thnF (pgg.run _ sg _ Hg x u _ Ip rg (step x Hg yg)) fun _ sh ⟨σg, Hh, Ih, hwp, qq8⟩ => ?_
      refine thnF (ptt.run _ sh σg Hh _ Ih qq8) fun b si ⟨Hi, Iq, qq9⟩ => ?_
      -- the turn's end
      have fn9 : ∀ {s' : Shared} {H' : Hp}, L2.Inv (X.blk sc Hc scope cee fp) ([] ++ pinsAt fp sg.heap) σg H' s' → Nx H' → ∃ m, m < n ∧ ∃ i H', L2.Inv (X.blk sc Hc scope cee fp) [] (L2.wipe σ (own.map (·.2))) H' s' ∧ tnn i s'.heap ∧ (∀ b ∈ fp, H' b = none) ∧ Wn i m H' := fun {s' H'} I' nx => by
        obtain ⟨m', hm, w'⟩ := hNx H' nx
        have pinK : ∀ b ∈ fp, ∀ o, sg.heap.get? b = some o → s'.heap.get? b = some o ∧ H' b = none := fun b hb o e =>
          let z := I'.pin (b, o) (List.mem_append_right _ (List.mem_append_right _ (mem_pinsAt hb e)))
          ⟨z.1, z.2.1⟩
        have hlen : (L2.wipe σ (own.map (·.2))).length = σg.length := by rw [← hwp, wipe_length]
        refine ⟨m', hm, i + 1, H', (I'.unpinned (pins := [])).weak hlen (fun j v e => ?_), Tn.keep _ _ _ stg fun b hb o e => (pinK b hb o e).1, fun b hb => ?_, w'⟩
        · rw [← hwp] at e
          exact (wipe_some e).1
        · obtain ⟨o, e, _⟩ := Tn.obj _ _ stg b hb
          exact (pinK b hb o e).2
      cases b with
      | false =>
        simp only [Bool.false_eq_true, if_false] at qq9 ⊢
        exact fn9 Iq qq9
      | true =>
        simp only [if_true] at qq9 ⊢
        refine thnF (pkk.run _ si σg Hi _ Iq qq9) fun z sj ⟨ykk, Hj, Ir, rk10, q10⟩ => ?_
        refine thnF (pee.run _ sj σg Hj _ Ir q10) fun z2 s11 ⟨yvv, H11, Is, rv11, g11⟩ => ?_
        exact n_dictSet (X := X.blk sc Hc scope cee fp) hu Is g11 rk10 rv11 fun H12 s12 I12 nx => fn9 I12 nx
  exact codeAny_compStart_dict lp (Tn.self X.A 0 _ _ _ std lp)
/-- as a value -/
theorem pe_dcN {kx vx tg iter : Expr} {ifs : List Expr} {scope : Scope} {own : List (Str × Nat)} {pos : Pos} {wi : TI} {g : TG} {tt : TT} {tk tv : TE} (hc : X.calm = true) (hN : X.N.Nodup) (hu : X.A.units + 9 < cLine) (hi : PI X tg iter wi) (ok : BlkOk X.N X.env.scope scope own)
    (hg : ∀ (s : Shared) (H : Hp) (C : Addr) (cl : List (Str × Addr)) (fp : List Addr), PG (X.blk s H scope (compEnvC scope cl C X.env) fp) tg g) (ht : ∀ (s : Shared) (H : Hp) (C : Addr) (cl : List (Str × Addr)) (fp : List Addr), PTs (X.blk s H scope (compEnvC scope cl C X.env) fp) ifs tt)
    (hk : ∀ (s : Shared) (H : Hp) (C : Addr) (cl : List (Str × Addr)) (fp : List Addr), PE (X.blk s H scope (compEnvC scope cl C X.env) fp) kx tk)
    (he : ∀ (s : Shared) (H : Hp) (C : Addr) (cl : List (Str × Addr)) (fp : List Addr), PE (X.blk s H scope (compEnvC scope cl C X.env) fp) vx tv) (hs : ∀ x, foldedSetIterable iter X.env x = pure x := by intro _; rfl) :
    PE X (.DictComp kx vx [⟨tg, iter, ifs, 0⟩] scope pos) (tDcN X.K X.w wi g tt tk tv (own.map (·.2))) := by
  refine ⟨fun pins s σ H Q I h => ?_⟩
  rw [arm_eval_DictComp]
  refine dcN_core hc hN hu I hi ok hg ht hk he hs h fun D C s' m H' I' q hn f => ⟨m, hn, fun h'' sb => ?_⟩
  obtain ⟨f0, f1, fr2, fr3, f4, f5⟩ := f
  exact ⟨.ref D, H', I'.turned (t' := s'.toks) (fun b o hb e => (sb.2 b hb).trans e) f0 f1 fr3 f4 f5, rfl, q⟩
end
end Zp

set_option Elab.async false
set_option linter.all false
set_option autoImplicit false
set_option maxRecDepth 100000
set_option maxHeartbeats 4000000
namespace Zp
open PySem PySem.Spec PyProof.Rows L2 PySem.W
section
variable {X : Cx} {pins : List (Addr × Obj)} {σ : L2.St} {H : Hp} {s : Shared}
/-- an own object, untracked so far, is tracked from now on -/
theorem inv_track {a : Addr} {o : HO} (I : L2.Inv X pins σ H s) (f : FpOk X pins H a) (new : ObjOk X.prog X.w (upd H a o) s.heap a o) : L2.Inv X pins σ (upd H a o) s := by
  obtain ⟨f0, f1, f2, f3, f4, f5⟩ := f
  have ne : ∀ b u, H b = some u → b ≠ a := fun b u e z => by rw [z, f0] at e; cases e
  have z := I.step (H' := upd H a o) (h' := s.heap) (g' := s.gens) (d' := s.drawn) (t' := s.toks) (ch := [a]) (fun b hb => by
    rw [List.mem_singleton.mp hb]; exact ⟨f3, f1, f4, f5⟩) (fun b o _ _ _ e _ => e) (fun b o _ _ _ e _ => ⟨o.slots, e⟩)
    (fun b o hc _ n => by rw [upd_ne fun z => hc (by rw [z]; exact List.mem_singleton_self a)]; exact n) (fun b o _ e => ⟨o, e⟩) (fun b xs e => by rw [upd_ne (ne b _ e)]; exact e) (fun b o u e => by rw [upd_ne (ne b _ e)]; exact e)
    (fun b ps e => ⟨#[], by rw [upd_ne (ne b _ e), e]; simp⟩) (fun m hm => hm) (fun b u e => by
      by_cases hb : b = a
      · subst hb; rw [upd_same] at e; cases e; exact new
      · rw [upd_ne hb] at e
        exact (I.hok b u e).stay (fun c v _ q => q) (fun c q => by rw [upd_ne (ne c _ q)]; exact q) fun c xs q => by rw [upd_ne (ne c _ q)]; exact q) I.bare
  exact z
theorem hid_get {h : Heap} {k b : Addr} {o : Obj} (hb : b ≠ k) (e : h.get? b = some o) : (hideAll h [k]).get? b = some o := hideAll_get _ e fun z => hb (List.mem_singleton.mp z)
theorem keyI_rest {A2 : Around} {E : Value → Shared → Prop} {P : PySem.Fin → Shared → Prop} {a kS : Addr} {e1 : Nat} {vs : List Value} {xs : List V} {f : Value} {b : Bool} (I : L2.Inv X pins σ H s) (fa : FpOk X pins H a) (fk : FpOk X pins H kS) (hka : kS ≠ a)
    (nk : s.heap.get? kS = some (seqObj "list" #[] 0)) (na : s.heap.get? a = some (seqObj "list" #[] e1)) (hZ : vs.length ≤ sizeLine) (r : Vals xs vs) (J : Nat → Hp → List V → Prop) (j0 : J 0 H [])
    (turn : ∀ (i : Nat) (x : V) (u : Value) (H : Hp) (kvs : List V), xs[i]? = some x → RelV x u → J i H kvs → ∀ (pins' : List (Addr × Obj)) (s : Shared), L2.Inv X pins' σ H s →
      wpAny (model X.prog X.w) A2 (call f [u]) (EP X pins' σ (fun k H' => J (i + 1) H' (kvs ++ [k]))) (fun _ _ => False) s)
    (fin : ∀ (H : Hp) (kvs : List V) (us : List Value) (s : Shared), J vs.length H kvs → Vals kvs us → L2.Inv X pins σ H s → ∃ kz : List PyData, kz.length = vs.length ∧ EachIs (fun v d => ∃ as, Reads s.heap v d as) us kz ∧ AllAlike kz ∧ Sortable kz ∧ (∀ d, d ∈ kz → A2.units + d.depth < cLine) ∧
      ∀ (out : List Value) (c : Nat) (s' : Shared), L2.Inv X pins σ H s' → FpOk X pins H a → s'.heap.get? a = some (seqObj "list" (List.toArray out) c) → KeyedOut b kz vs out → P (.done (.ret .none)) s') :
    wpAny (model X.prog X.w) A2 (ksk_rest a f b vs.toArray e1 (.ref kS)) P E s := by
  unfold ksk_rest
  refine wpAny_bind (wpAny_rule ?_)
  first
    | rw [List.forIn_toArray]
    | (rw [← Array.forIn_toList]; simp only [List.toList_toArray])
    | rw [← Array.forIn_toList]
  refine wpAny_bind (ksk_fold (fun i s' => ∃ Hi kvs kA e, L2.Inv X pins σ Hi s' ∧ FpOk X pins Hi a ∧ FpOk X pins Hi kS ∧ s'.heap.get? kS = some (seqObj "list" kA e) ∧ s'.heap.get? a = some (seqObj "list" #[] e1) ∧ Vals kvs kA.toList ∧ kvs.length = i ∧ J i Hi kvs) vs 0 s
    ⟨H, [], #[], 0, I, fa, fk, nk, na, .nil, rfl, j0⟩ ?step ?done)
  case step =>
    rintro j u s1 hu ⟨Hi, kvs, kA, e, I1, fa1, fk1, nk1, na1, rk, lk, jj⟩
    simp only [Nat.zero_add] at lk jj ⊢
    have hjl : j < vs.length := (List.getElem?_eq_some_iff.mp hu).1
    obtain ⟨x, hx⟩ : ∃ x, xs[j]? = some x := ⟨_, List.getElem?_eq_getElem (by rw [r.length]; exact hjl)⟩
    obtain ⟨u', hu', ru⟩ := r.get hx
    rw [hu] at hu'; cases hu'
    have there : ∀ q ∈ [a, kS], ∃ o, s1.heap.get? q = some o ∧ ∀ v, o.data ≠ .cell v := fun q hq => by
      rcases List.mem_cons.mp hq with z | z
      · rw [z]; exact ⟨_, na1, fun v z => nomatch z⟩
      · rw [List.mem_singleton.mp z]; exact ⟨_, nk1, fun v z => nomatch z⟩
    have fps : ∀ q ∈ [a, kS], FpOk X pins Hi q := fun q hq => by
      rcases List.mem_cons.mp hq with z | z
      · rw [z]; exact fa1
      · rw [List.mem_singleton.mp z]; exact fk1
    have Ip := I1.pinned fps there
    refine wpAny_bind (wpAny_attempt (wpAny_mono (turn j x u Hi kvs hx ru jj _ s1 Ip) (fun v s2 he => ?_) fun _ _ hF => hF.elim))
    obtain ⟨k, H2, I2, rkk, jn⟩ := he
    try dsimp only
    have pin2 : ∀ q ∈ [a, kS], ∀ o, s1.heap.get? q = some o → s2.heap.get? q = some o ∧ H2 q = none := fun q hq o e =>
      let z := I2.pin (q, o) (List.mem_append_right _ (List.mem_append_right _ (mem_pinsAt hq e)))
      ⟨z.1, z.2.1⟩
    obtain ⟨nk2, hk2⟩ := pin2 kS (by simp) _ nk1
    obtain ⟨na2, ha2⟩ := pin2 a (by simp) _ na1
    have I3 : L2.Inv X pins σ H2 s2 := I2.unpinned
    have hz : kA.size ≤ vs.length := by
      have h1 : kvs.length = kA.toList.length := rk.length
      have h2 : kA.toList.length = kA.size := Array.length_toList
      omega
    have s1' := Heap.SameBut.update s2.heap kS (Obj.mapSeq (·.push v))
    obtain ⟨c2, hc2⟩ : ∃ c2, (s2.heap.update kS (Obj.mapSeq (·.push v))).get? kS = some (seqObj "list" (kA.push v) c2) := ⟨_, get?_update_seq nk2 (·.push v)⟩
    refine wpAny_bind (listUpdate_at nk2 rfl ?_ (Nat.le_trans hz hZ) (Nat.le_trans (Nat.le_of_eq (Array.size_push ..)) (Nat.succ_le_succ (Nat.le_trans hz hZ))))
    have I4 := I3.turned (t' := s2.toks) (h' := s2.heap.update kS (Obj.mapSeq (·.push v))) (it := kS) (fun q o hq e => (s1'.2 q hq).trans e) hk2 fk1.2.1 fk1.2.2.2.1 fk1.2.2.2.2.1 fk1.2.2.2.2.2
    refine wpAny_pure ⟨rfl, H2, kvs ++ [k], kA.push v, c2, I4, ⟨ha2, fa1.2⟩, ⟨hk2, fk1.2⟩, hc2, (s1'.2 a hka.symm).trans na2, ?_, by rw [List.length_append, lk]; rfl, jn⟩
    rw [Array.toList_push]
    exact rk.append (.cons rkk .nil)
  case done =>
    rintro s1 ⟨Hi, kvs, kA, e, I1, fa1, fk1, nk1, na1, rk, lk, jj⟩
    rw [Nat.zero_add] at lk jj
    obtain ⟨kz, lz, er, hal, hsk, hu, out⟩ := fin Hi kvs kA.toList s1 jj rk I1
    have hsz : kA.size = vs.length := by
      have h1 : kvs.length = kA.toList.length := rk.length
      have h2 : kA.toList.length = kA.size := Array.length_toList
      omega
    try dsimp only
    refine wpAny_bind (listItems_at nk1 rfl ?_)
    refine keyH_end (κ := dataKind s1.heap kz) (h₁ := hideAll s1.heap [kS]) (fun q o _ e => of_hideAll _ e) (hideAll_none _ (List.mem_singleton_self kS)) nk1 na1 hka (SortsAt.data (s := s1) er hal hsk hu) hsz hZ fun h3 tk3 c k3 n3 => ?_
    refine out _ c _ ?_ fa1 n3 ⟨s1.heap, kA.toList, hal, rfl, er⟩
    refine I1.turnedL (t' := tk3) (h' := h3) (ch := [a, kS]) (fun q o hq e => ?_) fun q hq => ?_
    · simp only [List.mem_cons, List.not_mem_nil, or_false, not_or] at hq
      exact k3 q o hq.1 (hid_get hq.2 e)
    · rcases List.mem_cons.mp hq with z | z
      · rw [z]; exact fa1
      · rw [List.mem_singleton.mp z]; exact fk1
theorem dpAll_len {K : Frag} {H : Hp} : ∀ {xs : List V} {ds : List PyData}, DpAll K H xs ds → xs.length = ds.length
  | _, _, .nil => rfl
  | _, _, .cons _ b => by rw [List.length_cons, List.length_cons, dpAll_len b]
/-- collecting the items of v -/
def Coll (M : Model) (A : Around) (s : Shared) (v : Value) (vs : List Value) : Prop := ∀ (R : List Value → Shared → Prop) (E : Value → Shared → Prop),
  (∀ (h' : Heap) (tk : Nat), (∀ b o, s.heap.get? b = some o → h'.get? b = some o) → R vs { s with heap := h', toks := tk }) → wpAny M A (collect v) R E s
theorem coll_list {P : Program} {w : World} {A : Around} {l : Addr} {vs : List Value} (hl : s.heap.IsList l vs.toArray) (hL : vs.length ≤ sizeLine) : Coll (model P w) A s (.ref l) vs := fun R E h =>
  collect_list hl (h _ s.toks fun b o e => (Heap.get?_update_ne _ _ _ _ (Nat.ne_of_lt (Heap.lt_size e))).trans (Heap.get?_push_of_some _ e)) hL
theorem coll_raw {P : Program} {w : World} {A : Around} {d : Addr} {es : Array DictEntry} {ep : Nat} (hh : A.handled = none) (lo : (d == sysModules) = false) (hr : s.heap.DictRaw d es ep) (hz : es.size ≤ sizeLine) : Coll (model P w) A s (.ref d) (es.toList.map (·.key)) := fun R E h => by
  obtain ⟨o, ho, hx, hd⟩ := hr
  refine kdu_collect (kdl_raw lo hx hd) hh ho hz fun h' tk acc hk it => ?_
  have e : acc.toList = es.toList.map (·.key) := by
    have hl : acc.toList.length = es.toList.length := by rw [Array.length_toList, it.1, Array.length_toList]
    apply List.ext_getElem?
    intro j
    rw [List.getElem?_map]
    cases hj : acc.toList[j]? with
    | none =>
      have h1 := List.getElem?_eq_none_iff.mp hj
      rw [List.getElem?_eq_none_iff.mpr (by rw [← hl]; exact h1)]; rfl
    | some v =>
      obtain ⟨en, e1, e2⟩ := it.2 j v (by rw [← hj, Array.getElem?_toList])
      rw [Array.getElem?_toList, e1, e2]; rfl
  rw [e]
  exact h h' tk hk
/-- sorted(v, ..) behind the copying -/
theorem sorted_of_coll {A : Around} {E : Value → Shared → Prop} {v : Value} {vs : List Value} {kw : List (Str × Value)} {Q : Value → Shared → Prop} {P : Program} {w : World} (C : Coll (model P w) A.in1 s v vs) (hL : vs.length ≤ sizeLine) (ha1 : argsOk "sorted" ⟨[v], kw⟩) (ha2 : ∀ x, argsOk "list.sort" ⟨[.ref x], kw⟩)
    (body : ∀ (h1 : Heap) (tk : Nat) (E' : Value → Shared → Prop), (∀ b o, s.heap.get? b = some o → h1.get? b = some o) → wpAny (model P w) A.in1.in1 (Builtin.«list.sort» ⟨[.ref h1.objs.size], kw⟩) (fun f s' => f = .done (.ret .none) ∧ Q (.ref h1.objs.size) s') E' { s with heap := h1.push (seqObj "list" vs.toArray 0), toks := tk }) :
    wpAny (model P w) A (call (.builtin "sorted") [v] kw) Q E s := by
  refine call_function_entry_kw kind_sorted plain_sorted entry_sorted ha1 ?_
  unfold Builtin.«sorted»
  refine wpAny_bind (m := checkCount "sorted" 1 1 _) (wpAny_pure ?_)
  refine wpAny_bind (C _ _ fun h1 tk kp => ?_)
  refine wpAny_bind (wpAny_newList ?_ hL)
  have hoL : (h1.push (seqObj "list" vs.toArray 0)).get? h1.objs.size = some (seqObj "list" vs.toArray 0) := Heap.get?_push_size _ rfl
  refine wpAny_bind (wpAny_holding (wpAny_call_entry_kw slot_list_sort ⟨_, hoL, rfl⟩ entry_list_sort ?_ (ha2 _)))
  refine wpAny_mono (body h1 tk _ kp) (fun f s' hf => ?_) fun _ _ e => e
  obtain ⟨rfl, hq⟩ := hf
  exact ⟨_, rfl, wpAny_pure ⟨_, rfl, hq⟩⟩
theorem each_vals {xs : List V} {vs : List Value} (r : Vals xs vs) : EachIs (fun v x => RelV x v) vs xs := by
  induction r with
  | nil => exact EachIs.nil
  | cons a b ih => exact EachIs.cons a ih
theorem vals_each : ∀ {vs : List Value} {xs : List V}, EachIs (fun v x => RelV x v) vs xs → Vals xs vs
  | [], [], _ => .nil
  | _ :: _, _ :: _, h => by
    cases h with
    | cons a b => exact .cons a (vals_each b)
  | [], _ :: _, h => by cases h
  | _ :: _, [], h => by cases h
/-- .. by key -/
def sortedV (xs : List V) (kz : List PyData) : List V := ((xs.zip kz).mergeSort (dataLe false (·.2))).map (·.1)
theorem each_zip : ∀ {vs : List Value} {xs : List V} {kz : List PyData}, Vals xs vs → kz.length = vs.length → EachIs (fun v (p : V × PyData) => RelV p.1 v) vs (xs.zip kz)
  | [], [], [], _, _ => EachIs.nil
  | v :: vs, x :: xs, k :: kz, .cons a b, h => EachIs.cons a (each_zip b (by simpa using h))
  | [], _, _ :: _, _, h => by simp at h
  | _ :: _, _, [], _, h => by simp at h
theorem map_snd_zip : ∀ {xs : List V} {kz : List PyData}, xs.length = kz.length → (xs.zip kz).map (·.2) = kz
  | [], [], _ => rfl
  | x :: xs, k :: kz, h => by rw [List.zip_cons_cons, List.map_cons, map_snd_zip (by simpa using h)]
  | [], _ :: _, h => by simp at h
  | _ :: _, [], h => by simp at h
theorem each_fst {β : Type} : ∀ {vs : List Value} {ps : List (V × β)}, EachIs (fun v (p : V × β) => RelV p.1 v) vs ps → Vals (ps.map (·.1)) vs
  | [], [], _ => .nil
  | _ :: _, _ :: _, h => by
    cases h with
    | cons a b => exact .cons a (each_fst b)
  | [], _ :: _, h => by cases h
  | _ :: _, [], h => by cases h
theorem keyedOut_vals {kz : List PyData} {vs out : List Value} {xs : List V} (h : KeyedOut false kz vs out) (r : Vals xs vs) (hl : kz.length = vs.length) : Vals (sortedV xs kz) out := by
  have e : (xs.zip kz).map (·.2) = kz := map_snd_zip (by rw [hl]; exact r.length)
  rw [← e] at h
  exact each_fst (keyedOut_each (R := fun v (p : V × PyData) => RelV p.1 v) (·.2) h (each_zip r hl))
theorem sortedV_length (xs : List V) (kz : List PyData) : (sortedV xs kz).length ≤ xs.length := by
  unfold sortedV
  rw [List.length_map, (List.mergeSort_perm _ _).length_eq, List.length_zip]
  exact Nat.min_le_left _ _
/-- sorted(v, key=f): what f's calls do, J; what they give at the end -/
theorem sorted_keyI {v fv : Value} {vs : List Value} {xs : List V} {Q : VK} (ht : ∀ a : Addr, Builtin.«list.sort» ⟨[.ref a], [(Str.ofString "key", fv)]⟩ = ksk_tree a fv false) (I : L2.Inv X pins σ H s) (C : Coll (model X.prog X.w) X.A.in1 s v vs) (hL : vs.length ≤ sizeLine) (r : Vals xs vs) (J : Nat → Hp → List V → Prop) (j0 : J 0 H [])
    (turn : ∀ (i : Nat) (x : V) (u : Value) (H : Hp) (kvs : List V), xs[i]? = some x → RelV x u → J i H kvs → ∀ (pins' : List (Addr × Obj)) (s : Shared), L2.Inv X pins' σ H s →
      wpAny (model X.prog X.w) X.A.in1.in1 (call fv [u]) (EP X pins' σ (fun k H' => J (i + 1) H' (kvs ++ [k]))) (fun _ _ => False) s)
    (fin : ∀ (H : Hp) (kvs : List V) (us : List Value) (s : Shared), J vs.length H kvs → Vals kvs us → L2.Inv X pins σ H s → ∃ kz : List PyData, kz.length = vs.length ∧ EachIs (fun v d => ∃ as, Reads s.heap v d as) us kz ∧ AllAlike kz ∧ Sortable kz ∧ (∀ d, d ∈ kz → X.A.in1.in1.units + d.depth < cLine) ∧
      ∀ p, H p = none → Q (.ref p) (upd H p (.lst (sortedV xs kz)))) :
    wpAny (model X.prog X.w) X.A (call (.builtin "sorted") [v] [(Str.ofString "key", fv)]) (EP X pins σ Q) X.xe s := by
  refine sorted_of_coll C hL (ksk_s1 _ _) (fun x => ksk_l1 _ _) fun h1 tk E' kp => ?_
  rw [ht]
  have I1 : L2.Inv X pins σ H { s with heap := h1, toks := tk } := I.kept (t' := tk) kp
  generalize ea : h1.objs.size = a
  have ho : (h1.push (seqObj "list" vs.toArray 0)).get? a = some (seqObj "list" vs.toArray 0) := by rw [← ea]; exact Heap.get?_push_size _ rfl
  obtain ⟨e1, ho1⟩ : ∃ e1, ((h1.push (seqObj "list" vs.toArray 0)).update a (Obj.mapSeq fun _ => (#[] : Array Value))).get? a = some (seqObj "list" #[] e1) := ⟨_, get?_update_seq ho fun _ => #[]⟩
  have hkS : (((h1.push (seqObj "list" vs.toArray 0)).update a (Obj.mapSeq fun _ => (#[] : Array Value))).push (seqObj "tuple" vs.toArray 0)).objs.size = a + 2 := by
    rw [size_push', Heap.size_update, size_push', ea]
  unfold ksk_tree
  refine wpAny_bind (listItems_at ho rfl ?_)
  refine wpAny_bind (listUpdate_at ho rfl ?_ (by rw [List.size_toArray]; exact hL) (Nat.zero_le _))
  refine wpAny_bind (seqEpoch_at ho1 rfl ?_)
  refine wpAny_bind (wpAny_newTuple ?_ (by show vs.length ≤ _; exact hL))
  refine wpAny_bind (wpAny_newList ?_ (Nat.zero_le _))
  refine wpAny_holding ?_
  have fa : FpOk X pins H a := I1.fpOk (Nat.le_of_eq ea) (I1.hok.fresh (Nat.le_of_eq ea))
  have hk2 : h1.objs.size ≤ (((h1.push (seqObj "list" vs.toArray 0)).update a (Obj.mapSeq fun _ => (#[] : Array Value))).push (seqObj "tuple" vs.toArray 0)).objs.size := by rw [hkS, ea]; exact Nat.le_add_right _ _
  have fk := I1.fpOk (H' := H) hk2 (I1.hok.fresh hk2)
  have I2 := I1.kept (t' := tk) (h' := sortingHeap (h1.push (seqObj "list" vs.toArray 0)) a vs) fun b o e => sortingHeap_old (Nat.ne_of_lt (by rw [← ea]; exact Heap.lt_size e)) (Heap.get?_push_of_some _ e)
  refine keyI_rest I2 fa fk (by rw [hkS]; exact Nat.ne_of_gt (Nat.lt_add_of_pos_right (by decide))) (Heap.get?_push_size _ rfl) (Heap.get?_push_of_some _ (Heap.get?_push_of_some _ ho1)) hL r J j0 turn fun H' kvs us s' jn ru I' => ?_
  obtain ⟨kz, lz, er, hal, hsk, hu, q⟩ := fin H' kvs us s' jn ru I'
  refine ⟨kz, lz, er, hal, hsk, hu, fun out c s2 I3 fa3 ha3 ko => ⟨rfl, ?_⟩⟩
  have rv := keyedOut_vals ko r lz
  refine ⟨.ref a, _, inv_track (o := .lst (sortedV xs kz)) I3 fa3 ⟨?_, out, c, rv, ha3⟩, rfl, q a fa3.1⟩
  exact Nat.le_trans (sortedV_length xs kz) (by rw [r.length]; exact hL)
/-- sorted(v) -/
theorem sortedI {v : Value} {vs : List Value} {xs : List V} {kz : List PyData} {Q : VK} (I : L2.Inv X pins σ H s) (C : Coll (model X.prog X.w) X.A.in1 s v vs) (hL : vs.length ≤ sizeLine) (r : Vals xs vs) (dq : DpAll X.K H xs kz) (hal : AllAlike kz) (hsk : Sortable kz)
    (hu : ∀ d, d ∈ kz → X.A.in1.in1.units + d.depth < cLine) (q : ∀ p, H p = none → Q (.ref p) (upd H p (.lst (sortedV xs kz)))) (ha1 : argsOk "sorted" ⟨[v], []⟩) :
    wpAny (model X.prog X.w) X.A (call (.builtin "sorted") [v]) (EP X pins σ Q) X.xe s := by
  refine sorted_of_coll C hL ha1 (fun x => args_list_sort _) fun h1 tk E' kp => ?_
  have I1 : L2.Inv X pins σ H { s with heap := h1, toks := tk } := I.kept (t' := tk) kp
  generalize ea : h1.objs.size = a
  have ho : (h1.push (seqObj "list" vs.toArray 0)).get? a = some (seqObj "list" vs.toArray 0) := by rw [← ea]; exact Heap.get?_push_size _ rfl
  have fa : FpOk X pins H a := I1.fpOk (Nat.le_of_eq ea) (I1.hok.fresh (Nat.le_of_eq ea))
  have old : ∀ b o, h1.get? b = some o → (sortingHeap (h1.push (seqObj "list" vs.toArray 0)) a vs).get? b = some o := fun b o e => sortingHeap_old (Nat.ne_of_lt (by rw [← ea]; exact Heap.lt_size e)) (Heap.get?_push_of_some _ e)
  have I2 := I1.kept (t' := tk) (h' := sortingHeap (h1.push (seqObj "list" vs.toArray 0)) a vs) old
  have lz : kz.length = vs.length := by rw [← r.length]; exact (dpAll_len dq).symm
  have er : EachIs (fun v d => ∃ as, Reads (sortingHeap (h1.push (seqObj "list" vs.toArray 0)) a vs) v d as) vs kz := by
    have go : ∀ {xs : List V} {kz : List PyData} {vs : List Value}, DpAll X.K H xs kz → Vals xs vs → EachIs (fun v d => ∃ as, Reads (sortingHeap (h1.push (seqObj "list" vs.toArray 0)) a vs) v d as) vs kz → EachIs (fun v d => ∃ as, Reads (sortingHeap (h1.push (seqObj "list" vs.toArray 0)) a vs) v d as) vs kz := fun _ _ h => h
    clear go
    generalize hh : sortingHeap (h1.push (seqObj "list" vs.toArray 0)) a vs = hp at I2
    clear C hL hal hsk hu q ho old lz ha1
    have go : ∀ {xs : List V} {kz : List PyData} {us : List Value}, DpAll X.K H xs kz → Vals xs us → EachIs (fun v d => ∃ as, Reads hp v d as) us kz := by
      intro xs kz
      induction kz generalizing xs with
      | nil => intro us d r; cases d; cases r; exact EachIs.nil
      | cons k kz ih =>
        intro us d r
        cases d with
        | cons d1 d2 =>
          cases r with
          | cons r1 r2 => exact EachIs.cons (Dp.reads I2 _ _ _ d1 r1) (ih d2 r2)
    exact go dq r
  refine list_sort_vals (s := { s with heap := h1.push (seqObj "list" vs.toArray 0), toks := tk }) ho (SortsAt.data er hal hsk hu) hL ⟨rfl, ?_⟩
  obtain ⟨c, hc⟩ := PyProof.Rows.sortedHeap_at (vs := vs) (out := (sortVals (dataKind (sortingHeap (h1.push (seqObj "list" vs.toArray 0)) a vs) kz) false vs vs).toArray) ho
  have I3 : L2.Inv X pins σ H { s with heap := PyProof.Rows.sortedHeap (h1.push (seqObj "list" vs.toArray 0)) a vs (sortVals (dataKind (sortingHeap (h1.push (seqObj "list" vs.toArray 0)) a vs) kz) false vs vs).toArray, toks := tk } := I1.kept (t' := tk) fun b o e => by
    have hb : b < h1.objs.size := Heap.lt_size e
    rw [PyProof.Rows.sortedHeap_old (Nat.ne_of_lt (by rw [← ea]; exact hb)) (by rw [size_push']; exact Nat.lt_succ_of_lt hb)]
    exact Heap.get?_push_of_some _ e
  have ko : KeyedOut false kz vs (sortVals (dataKind (sortingHeap (h1.push (seqObj "list" vs.toArray 0)) a vs) kz) false vs vs) := ⟨_, vs, hal, rfl, er⟩
  refine ⟨.ref a, _, inv_track (o := .lst (sortedV xs kz)) I3 fa ⟨?_, _, c, keyedOut_vals ko r lz, hc⟩, rfl, q a fa.1⟩
  exact Nat.le_trans (sortedV_length xs kz) (by rw [r.length]; exact hL)
end
end Zp

set_option Elab.async false
set_option linter.all false
set_option autoImplicit false
set_option maxRecDepth 100000
set_option maxHeartbeats 4000000
namespace Zp
open PySem PySem.Spec PyProof.Rows L2

/-! ### what values and states mean -/
/-- values: data as a whole, a changeable object by its number, an instance that does not change, tuples and lists of such -/
inductive D where
  | dat (d : PyData)
  | ref (n : Nat)
  | obj (c : Str) (fs : List (Str × D))
  | tup (l : List D)
  | lst (l : List D)
/-- what a changeable object holds -/
inductive Cell where
  | lst (l : List PyData)
  | dic (f : Bool) (l : List (PyData × PyData))
  | obj (c : Str) (fs : List (Str × D))
structure Exn where
  c : Str
  fs : List (Str × PyData)
inductive Out (α : Type) where
  | ok (a : α) (st : List Cell)
  | exc (e : Exn) (st : List Cell)
  | bad
abbrev Mo (α : Type) := List Cell → Out α
/-- a value, or a function made here -/
inductive DC where
  | v (d : D)
  | clo (g : List D → Mo D)
abbrev Ev := List (Option DC)
def Out.bind {α β : Type} (o : Out α) (k : α → Mo β) : Out β := match o with
  | .ok a st => k a st
  | .exc e st => .exc e st
  | .bad => .bad
abbrev ret {α : Type} (a : α) : Mo α := fun st => .ok a st
abbrev stuck {α : Type} : Mo α := fun _ => .bad

/-! ### what is fixed through a law -/
structure Gx where
  P : Program
  w : World
  K : PySem.W.Frag
  mg : Str → Option Value
  T : List (Addr × Str)
  cl : List Str
/-- .. and, for the functions that are handed on: what is pinned, how deep they may call -/
structure Gz extends Gx where
  base : Heap
  kc : Nat
instance : Coe Gz Gx := ⟨Gz.toGx⟩

/-- where the changeable objects stand; the lists that comprehensions around are filling -/
structure As where
  m : List Addr
  h : List Addr
/-- not to be leant on -/
def As.bad (as : As) (a : Addr) : Prop := a ∈ as.m ∨ a ∈ as.h
/-- a list at a that nobody changes any more -/
def SH (H : Hp) (as : As) (a : Addr) (xs : List V) : Prop := ¬ as.bad a ∧ Rd H a (.lst xs)
/-- .. or one that was there ahead of the law -/
def SL (K : PySem.W.Frag) (H : Hp) (as : As) (a : Addr) (xs : List V) : Prop :=
  (¬ as.bad a ∧ Rd H a (.lst xs)) ∨
    ∃ (o : Obj) (its : Array Value) (n : Nat), K.lookup a = some o ∧ o.cls = .type "list" ∧ o.dict = none ∧ o.data = .seq its n ∧ its.size ≤ sizeLine ∧ Vals xs its.toList
def ST (K : PySem.W.Frag) (H : Hp) (as : As) (a : Addr) (xs : List V) : Prop :=
  (¬ as.bad a ∧ Rd H a (.tup xs)) ∨
    ∃ (o : Obj) (its : Array Value) (n : Nat), K.lookup a = some o ∧ o.cls = .type "tuple" ∧ o.data = .seq its n ∧ its.size ≤ sizeLine ∧ Vals xs its.toList
theorem SH.sq {K : PySem.W.Frag} {H : Hp} {as : As} {a : Addr} {xs : List V} (h : SH H as a xs) : SqL K H a xs := .inl h.2
theorem SH.sl {K : PySem.W.Frag} {H : Hp} {as : As} {a : Addr} {xs : List V} (h : SH H as a xs) : SL K H as a xs := .inl h
theorem SL.sq {K : PySem.W.Frag} {H : Hp} {as : As} {a : Addr} {xs : List V} (h : SL K H as a xs) : SqL K H a xs := h.elim (fun z => .inl z.2) .inr
theorem ST.sq {K : PySem.W.Frag} {H : Hp} {as : As} {a : Addr} {xs : List V} (h : ST K H as a xs) : SqT K H a xs := h.elim (fun z => .inl z.2) .inr

mutual
/-- v holds the data d; none of its lists is one of the changeable ones at as -/
inductive Dq (K : PySem.W.Frag) (H : Hp) (as : As) : V → PyData → Prop
  | non : Dq K H as .non .none
  | bl (b : Bool) : Dq K H as (.bl b) (.bool b)
  | int (i : Int) : Dq K H as (.int i) (.int i)
  | str (x : Str) : Dq K H as (.str x) (.str x)
  | lst {a : Addr} {xs : List V} {ds : List PyData} : SH H as a xs → DqAll K H as xs ds → Dq K H as (.ref a) (.list ds)
  | tup {a : Addr} {xs : List V} {ds : List PyData} : ST K H as a xs → DqAll K H as xs ds → Dq K H as (.ref a) (.tuple ds)
inductive DqAll (K : PySem.W.Frag) (H : Hp) (as : As) : List V → List PyData → Prop
  | nil : DqAll K H as [] []
  | cons {v : V} {vs : List V} {d : PyData} {ds : List PyData} : Dq K H as v d → DqAll K H as vs ds → DqAll K H as (v :: vs) (d :: ds)
end
mutual
theorem Dq.dp {K : PySem.W.Frag} {H : Hp} {as : As} {v : V} {d : PyData} : Dq K H as v d → Dp K H v d
  | .non => .non
  | .bl b => .bl b
  | .int i => .int i
  | .str x => .str x
  | .lst h r => .lst h.sq r.dp
  | .tup h r => .tup h.sq r.dp
theorem DqAll.dp {K : PySem.W.Frag} {H : Hp} {as : As} {v : List V} {d : List PyData} : DqAll K H as v d → DpAll K H v d
  | .nil => .nil
  | .cons a b => .cons a.dp b.dp
end
theorem DqAll.length {K : PySem.W.Frag} {H : Hp} {as : As} : ∀ {v : List V} {d : List PyData}, DqAll K H as v d → v.length = d.length
  | _, _, .nil => rfl
  | _, _, .cons _ b => by rw [List.length_cons, List.length_cons, DqAll.length b]
theorem DqAll.get {K : PySem.W.Frag} {H : Hp} {as : As} : ∀ {v : List V} {d : List PyData} {i : Nat} {x : PyData}, DqAll K H as v d → d[i]? = some x → ∃ y, v[i]? = some y ∧ Dq K H as y x
  | _, _, _, _, .nil, e => by simp at e
  | _, _, 0, _, .cons a b, e => by simp at e; subst e; exact ⟨_, rfl, a⟩
  | _, _, i + 1, x, .cons a b, e => by
    obtain ⟨y, h1, h2⟩ := DqAll.get (i := i) (x := x) b (by simpa using e)
    exact ⟨y, by simpa using h1, h2⟩
theorem DqAll.get' {K : PySem.W.Frag} {H : Hp} {as : As} : ∀ {v : List V} {d : List PyData} {i : Nat} {y : V}, DqAll K H as v d → v[i]? = some y → ∃ x, d[i]? = some x ∧ Dq K H as y x
  | _, _, _, _, .nil, e => by simp at e
  | _, _, 0, _, .cons a b, e => by simp at e; subst e; exact ⟨_, rfl, a⟩
  | _, _, i + 1, x, .cons a b, e => by
    obtain ⟨y, h1, h2⟩ := DqAll.get' (i := i) (y := x) b (by simpa using e)
    exact ⟨y, by simpa using h1, h2⟩
theorem DqAll.append {K : PySem.W.Frag} {H : Hp} {as : As} : ∀ {v w : List V} {d e : List PyData}, DqAll K H as v d → DqAll K H as w e → DqAll K H as (v ++ w) (d ++ e)
  | _, _, _, _, .nil, h => h
  | _, _, _, _, .cons a b, h => .cons a (DqAll.append b h)
theorem DqAll.take {K : PySem.W.Frag} {H : Hp} {as : As} : ∀ {v : List V} {d : List PyData} (n : Nat), DqAll K H as v d → DqAll K H as (v.take n) (d.take n)
  | _, _, 0, _ => .nil
  | _, _, _ + 1, .nil => .nil
  | _, _, n + 1, .cons a b => .cons a (DqAll.take n b)
theorem DqAll.drop {K : PySem.W.Frag} {H : Hp} {as : As} : ∀ {v : List V} {d : List PyData} (n : Nat), DqAll K H as v d → DqAll K H as (v.drop n) (d.drop n)
  | _, _, 0, h => h
  | _, _, _ + 1, .nil => .nil
  | _, _, n + 1, .cons a b => DqAll.drop n b
theorem DqAll.set {K : PySem.W.Frag} {H : Hp} {as : As} {x : V} {y : PyData} (q : Dq K H as x y) : ∀ {v : List V} {d : List PyData} (n : Nat), DqAll K H as v d → DqAll K H as (v.set n x) (d.set n y)
  | _, _, _, .nil => .nil
  | _, _, 0, .cons a b => .cons q b
  | _, _, n + 1, .cons a b => .cons a (DqAll.set q n b)
theorem DqAll.eraseIdx {K : PySem.W.Frag} {H : Hp} {as : As} : ∀ {v : List V} {d : List PyData} (n : Nat), DqAll K H as v d → DqAll K H as (v.eraseIdx n) (d.eraseIdx n)
  | _, _, _, .nil => .nil
  | _, _, 0, .cons a b => b
  | _, _, n + 1, .cons a b => .cons a (DqAll.eraseIdx n b)
theorem DqAll.reverse {K : PySem.W.Frag} {H : Hp} {as : As} : ∀ {v : List V} {d : List PyData}, DqAll K H as v d → DqAll K H as v.reverse d.reverse
  | _, _, .nil => .nil
  | _, _, .cons a b => by
    rw [List.reverse_cons, List.reverse_cons]
    exact (DqAll.reverse b).append (.cons a .nil)

/-! ### growth -/
/-- what nothing changes: tuples, what is locked -/
def Fixd : HO → Prop
  | .tup _ => True
  | .frz _ _ => True
  | _ => False
/-- what is not changeable stays -/
structure Gk (H : Hp) (as : As) (H' : Hp) (as' : As) : Prop where
  fix : ∀ b o, H b = some o → Fixd o → H' b = some o
  keep : ∀ b o, H b = some o → ¬ as.bad b → (∀ ps, o ≠ .tbl ps) → H' b = some o ∧ ¬ as'.bad b
  pre : as.m <+: as'.m
/-- .. nor do the lists change that are being filled around -/
structure Gr (H : Hp) (as : As) (H' : Hp) (as' : As) : Prop extends Gk H as H' as' where
  hid : as.h <:+ as'.h
  held : ∀ b, b ∈ as.h → H' b = H b
theorem Gr.refl (H : Hp) (as : As) : Gr H as H as := ⟨⟨fun _ _ e _ => e, fun _ _ e n _ => ⟨e, n⟩, List.prefix_refl _⟩, List.suffix_refl _, fun _ _ => rfl⟩
theorem Gr.trans {H H1 H2 : Hp} {as as1 as2 : As} (a : Gr H as H1 as1) (b : Gr H1 as1 H2 as2) : Gr H as H2 as2 :=
  ⟨⟨fun c o e f => b.fix c o (a.fix c o e f) f, fun c o e n t => let ⟨e1, n1⟩ := a.keep c o e n t; b.keep c o e1 n1 t, a.pre.trans b.pre⟩, a.hid.trans b.hid, fun c hc => (b.held c (a.hid.subset hc)).trans (a.held c hc)⟩
theorem Gk.get {H H' : Hp} {as as' : As} (g : Gk H as H' as') {n : Nat} {a : Addr} (e : as.m[n]? = some a) : as'.m[n]? = some a := by
  obtain ⟨t, ht⟩ := g.pre
  rw [← ht, List.getElem?_append_left (List.getElem?_eq_some_iff.mp e).1]
  exact e
theorem SH.gk {H H' : Hp} {as as' : As} {a : Addr} {xs : List V} (g : Gk H as H' as') (h : SH H as a xs) : SH H' as' a xs := by
  rcases h with ⟨n, h | ⟨o, h⟩⟩
  · obtain ⟨e, n'⟩ := g.keep _ _ h n (fun _ z => by cases z)
    exact ⟨n', .inl e⟩
  · obtain ⟨e, n'⟩ := g.keep _ _ h n (fun _ z => by cases z)
    exact ⟨n', .inr ⟨o, e⟩⟩
theorem SL.gk {K : PySem.W.Frag} {H H' : Hp} {as as' : As} {a : Addr} {xs : List V} (g : Gk H as H' as') (h : SL K H as a xs) : SL K H' as' a xs := by
  rcases h with ⟨n, h | ⟨o, h⟩⟩ | h
  · obtain ⟨e, n'⟩ := g.keep _ _ h n (fun _ z => by cases z)
    exact .inl ⟨n', .inl e⟩
  · obtain ⟨e, n'⟩ := g.keep _ _ h n (fun _ z => by cases z)
    exact .inl ⟨n', .inr ⟨o, e⟩⟩
  · exact .inr h
theorem ST.gk {K : PySem.W.Frag} {H H' : Hp} {as as' : As} {a : Addr} {xs : List V} (g : Gk H as H' as') (h : ST K H as a xs) : ST K H' as' a xs := by
  rcases h with ⟨n, h | ⟨o, h⟩⟩ | h
  · obtain ⟨e, n'⟩ := g.keep _ _ h n (fun _ z => by cases z)
    exact .inl ⟨n', .inl e⟩
  · obtain ⟨e, n'⟩ := g.keep _ _ h n (fun _ z => by cases z)
    exact .inl ⟨n', .inr ⟨o, e⟩⟩
  · exact .inr h
mutual
theorem Dq.gk {K : PySem.W.Frag} {H H' : Hp} {as as' : As} (g : Gk H as H' as') : ∀ {v : V} {d : PyData}, Dq K H as v d → Dq K H' as' v d
  | _, _, .non => .non
  | _, _, .bl b => .bl b
  | _, _, .int i => .int i
  | _, _, .str x => .str x
  | _, _, .lst h r => .lst (h.gk g) (r.gk g)
  | _, _, .tup h r => .tup (h.gk g) (r.gk g)
theorem DqAll.gk {K : PySem.W.Frag} {H H' : Hp} {as as' : As} (g : Gk H as H' as') : ∀ {v : List V} {d : List PyData}, DqAll K H as v d → DqAll K H' as' v d
  | _, _, .nil => .nil
  | _, _, .cons a b => .cons (a.gk g) (b.gk g)
end
theorem SL.gr {K : PySem.W.Frag} {H H' : Hp} {as as' : As} {a : Addr} {xs : List V} (g : Gr H as H' as') (h : SL K H as a xs) : SL K H' as' a xs := h.gk g.toGk
theorem ST.gr {K : PySem.W.Frag} {H H' : Hp} {as as' : As} {a : Addr} {xs : List V} (g : Gr H as H' as') (h : ST K H as a xs) : ST K H' as' a xs := h.gk g.toGk
theorem Dq.gr {K : PySem.W.Frag} {H H' : Hp} {as as' : As} (g : Gr H as H' as') {v : V} {d : PyData} (h : Dq K H as v d) : Dq K H' as' v d := h.gk g.toGk
theorem DqAll.gr {K : PySem.W.Frag} {H H' : Hp} {as as' : As} (g : Gr H as H' as') {v : List V} {d : List PyData} (h : DqAll K H as v d) : DqAll K H' as' v d := h.gk g.toGk
/-- fewer are changeable -/
theorem SH.less {H : Hp} {as as' : As} {a : Addr} {xs : List V} (g : ∀ b, as'.bad b → as.bad b) (h : SH H as a xs) : SH H as' a xs := ⟨fun q => h.1 (g _ q), h.2⟩
theorem SL.less {K : PySem.W.Frag} {H : Hp} {as as' : As} {a : Addr} {xs : List V} (g : ∀ b, as'.bad b → as.bad b) (h : SL K H as a xs) : SL K H as' a xs := h.imp (fun z => ⟨fun q => z.1 (g _ q), z.2⟩) id
theorem ST.less {K : PySem.W.Frag} {H : Hp} {as as' : As} {a : Addr} {xs : List V} (g : ∀ b, as'.bad b → as.bad b) (h : ST K H as a xs) : ST K H as' a xs := h.imp (fun z => ⟨fun q => z.1 (g _ q), z.2⟩) id
mutual
theorem Dq.less {K : PySem.W.Frag} {H : Hp} {as as' : As} (g : ∀ b, as'.bad b → as.bad b) : ∀ {v : V} {d : PyData}, Dq K H as v d → Dq K H as' v d
  | _, _, .non => .non
  | _, _, .bl b => .bl b
  | _, _, .int i => .int i
  | _, _, .str x => .str x
  | _, _, .lst h r => .lst (h.less g) (r.less g)
  | _, _, .tup h r => .tup (h.less g) (r.less g)
theorem DqAll.less {K : PySem.W.Frag} {H : Hp} {as as' : As} (g : ∀ b, as'.bad b → as.bad b) : ∀ {v : List V} {d : List PyData}, DqAll K H as v d → DqAll K H as' v d
  | _, _, .nil => .nil
  | _, _, .cons a b => .cons (a.less g) (b.less g)
end

/-! ### values as they lie -/
mutual
inductive RV (G : Gx) (H : Hp) (as : As) : D → V → Prop
  | dat {d : PyData} {v : V} : Dq G.K H as v d → RV G H as (.dat d) v
  | ref {n : Nat} {a : Addr} : as.m[n]? = some a → RV G H as (.ref n) (.ref a)
  | obj {c : Str} {fs : List (Str × D)} {a C dx : Addr} {vfs : List (Str × V)} : c ∈ G.cl → G.mg c = some (.ref C) → H a = some (.ins C dx vfs) → ¬ as.bad a → vfs.map (·.1) = fs.map (·.1) → RVs G H as (fs.map (·.2)) (vfs.map (·.2)) → RV G H as (.obj c fs) (.ref a)
  | tup {ds : List D} {a : Addr} {vs : List V} : ST G.K H as a vs → RVs G H as ds vs → RV G H as (.tup ds) (.ref a)
  | lst {ds : List D} {a : Addr} {vs : List V} : SL G.K H as a vs → RVs G H as ds vs → RV G H as (.lst ds) (.ref a)
inductive RVs (G : Gx) (H : Hp) (as : As) : List D → List V → Prop
  | nil : RVs G H as [] []
  | cons {d : D} {ds : List D} {v : V} {vs : List V} : RV G H as d v → RVs G H as ds vs → RVs G H as (d :: ds) (v :: vs)
end
mutual
theorem RV.gk {G : Gx} {H H' : Hp} {as as' : As} (g : Gk H as H' as') : ∀ {d : D} {v : V}, RV G H as d v → RV G H' as' d v
  | _, _, .dat h => .dat (h.gk g)
  | _, _, .ref e => .ref (g.get e)
  | _, _, .obj h0 h1 h2 h3 h4 h5 => .obj h0 h1 (g.keep _ _ h2 h3 (fun _ z => by cases z)).1 (g.keep _ _ h2 h3 (fun _ z => by cases z)).2 h4 (RVs.gk g h5)
  | _, _, .tup h r => .tup (h.gk g) (RVs.gk g r)
  | _, _, .lst h r => .lst (h.gk g) (RVs.gk g r)
theorem RVs.gk {G : Gx} {H H' : Hp} {as as' : As} (g : Gk H as H' as') : ∀ {d : List D} {v : List V}, RVs G H as d v → RVs G H' as' d v
  | _, _, .nil => .nil
  | _, _, .cons a b => .cons (RV.gk g a) (RVs.gk g b)
end
theorem RV.gr {G : Gx} {H H' : Hp} {as as' : As} (g : Gr H as H' as') {d : D} {v : V} (h : RV G H as d v) : RV G H' as' d v := h.gk g.toGk
theorem RVs.gr {G : Gx} {H H' : Hp} {as as' : As} (g : Gr H as H' as') {d : List D} {v : List V} (h : RVs G H as d v) : RVs G H' as' d v := h.gk g.toGk
theorem RVs.length {G : Gx} {H : Hp} {as : As} : ∀ {d : List D} {v : List V}, RVs G H as d v → d.length = v.length
  | _, _, .nil => rfl
  | _, _, .cons _ b => by rw [List.length_cons, List.length_cons, RVs.length b]
theorem RVs.get {G : Gx} {H : Hp} {as : As} : ∀ {d : List D} {v : List V} {i : Nat} {x : D}, RVs G H as d v → d[i]? = some x → ∃ y, v[i]? = some y ∧ RV G H as x y
  | _, _, _, _, .nil, e => by simp at e
  | _, _, 0, _, .cons a b, e => by simp at e; subst e; exact ⟨_, rfl, a⟩
  | _, _, i + 1, x, .cons a b, e => by
    obtain ⟨y, h1, h2⟩ := RVs.get (i := i) (x := x) b (by simpa using e)
    exact ⟨y, by simpa using h1, h2⟩
theorem RVs.get' {G : Gx} {H : Hp} {as : As} : ∀ {d : List D} {v : List V} {i : Nat} {y : V}, RVs G H as d v → v[i]? = some y → ∃ x, d[i]? = some x ∧ RV G H as x y
  | _, _, _, _, .nil, e => by simp at e
  | _, _, 0, _, .cons a b, e => by simp at e; subst e; exact ⟨_, rfl, a⟩
  | _, _, i + 1, x, .cons a b, e => by
    obtain ⟨y, h1, h2⟩ := RVs.get' (i := i) (y := x) b (by simpa using e)
    exact ⟨y, by simpa using h1, h2⟩
theorem RVs.append {G : Gx} {H : Hp} {as : As} : ∀ {d e : List D} {v w : List V}, RVs G H as d v → RVs G H as e w → RVs G H as (d ++ e) (v ++ w)
  | _, _, _, _, .nil, h => h
  | _, _, _, _, .cons a b, h => .cons a (RVs.append b h)
mutual
/-- only the first n changeable objects lie within -/
def low (n : Nat) : D → Bool
  | .dat _ => true
  | .ref k => decide (k < n)
  | .obj _ fs => lowF n fs
  | .tup l => lows n l
  | .lst l => lows n l
def lows (n : Nat) : List D → Bool
  | [] => true
  | d :: ds => low n d && lows n ds
def lowF (n : Nat) : List (Str × D) → Bool
  | [] => true
  | d :: ds => low n d.2 && lowF n ds
end
theorem lowF_eq (n : Nat) : ∀ fs : List (Str × D), lowF n fs = lows n (fs.map (·.2))
  | [] => rfl
  | d :: ds => by rw [lowF, List.map_cons, lows, lowF_eq n ds]
/-- only the first n changeable objects are told -/
def As.cut (as : As) (n : Nat) : As := ⟨as.m.take n, as.h⟩
theorem As.cut_bad {as : As} {n : Nat} (b : Addr) (h : (as.cut n).bad b) : as.bad b := h.imp (fun z => List.take_subset _ _ z) id
mutual
theorem RV.cut {G : Gx} {H : Hp} {as : As} {n : Nat} : ∀ {d : D} {v : V}, RV G H as d v → low n d = true → RV G H (as.cut n) d v
  | _, _, .dat h, _ => .dat (h.less fun _ z => As.cut_bad _ z)
  | _, _, .ref e, l => .ref (by show (as.m.take n)[_]? = _; rw [List.getElem?_take_of_lt (by simpa [low] using l)]; exact e)
  | _, _, .obj h0 h1 h2 h3 h4 h5, l => .obj h0 h1 h2 (fun z => h3 (As.cut_bad _ z)) h4 (RVs.cut h5 (by rw [low, lowF_eq] at l; exact l))
  | _, _, .tup h r, l => .tup (h.less fun _ z => As.cut_bad _ z) (RVs.cut r (by rw [low] at l; exact l))
  | _, _, .lst h r, l => .lst (h.less fun _ z => As.cut_bad _ z) (RVs.cut r (by rw [low] at l; exact l))
theorem RVs.cut {G : Gx} {H : Hp} {as : As} {n : Nat} : ∀ {d : List D} {v : List V}, RVs G H as d v → lows n d = true → RVs G H (as.cut n) d v
  | _, _, .nil, _ => .nil
  | _, _, .cons a b, l => by
    rw [lows, Bool.and_eq_true] at l
    exact .cons (RV.cut a l.1) (RVs.cut b l.2)
end
/-! a list that was being filled is done -/
mutual
theorem RV.less {G : Gx} {H : Hp} {as as' : As} (e : as'.m = as.m) (g : ∀ b, as'.bad b → as.bad b) : ∀ {d : D} {v : V}, RV G H as d v → RV G H as' d v
  | _, _, .dat h => .dat (h.less g)
  | _, _, .ref e1 => .ref (by rw [e]; exact e1)
  | _, _, .obj h0 h1 h2 h3 h4 h5 => .obj h0 h1 h2 (fun z => h3 (g _ z)) h4 (RVs.less e g h5)
  | _, _, .tup h r => .tup (h.less g) (RVs.less e g r)
  | _, _, .lst h r => .lst (h.less g) (RVs.less e g r)
theorem RVs.less {G : Gx} {H : Hp} {as as' : As} (e : as'.m = as.m) (g : ∀ b, as'.bad b → as.bad b) : ∀ {d : List D} {v : List V}, RVs G H as d v → RVs G H as' d v
  | _, _, .nil => .nil
  | _, _, .cons a b => .cons (RV.less e g a) (RVs.less e g b)
end
/-! .. of what holds nothing changeable -/
mutual
theorem RV.less0 {G : Gx} {H : Hp} {as as' : As} (g : ∀ b, as'.bad b → as.bad b) : ∀ {d : D} {v : V}, RV G H as d v → low 0 d = true → RV G H as' d v
  | _, _, .dat h, _ => .dat (h.less g)
  | _, _, .ref (n := n) e1, l => by simp [low] at l
  | _, _, .obj h0 h1 h2 h3 h4 h5, l => .obj h0 h1 h2 (fun z => h3 (g _ z)) h4 (RVs.less0 g h5 (by rw [low, lowF_eq] at l; exact l))
  | _, _, .tup h r, l => .tup (h.less g) (RVs.less0 g r (by rw [low] at l; exact l))
  | _, _, .lst h r, l => .lst (h.less g) (RVs.less0 g r (by rw [low] at l; exact l))
theorem RVs.less0 {G : Gx} {H : Hp} {as as' : As} (g : ∀ b, as'.bad b → as.bad b) : ∀ {d : List D} {v : List V}, RVs G H as d v → lows 0 d = true → RVs G H as' d v
  | _, _, .nil, _ => .nil
  | _, _, .cons a b, l => by
    rw [lows, Bool.and_eq_true] at l
    exact .cons (RV.less0 g a l.1) (RVs.less0 g b l.2)
end
theorem RVs.of_dq {G : Gx} {H : Hp} {as : As} : ∀ {vs : List V} {ds : List PyData}, DqAll G.K H as vs ds → RVs G H as (ds.map .dat) vs
  | _, _, .nil => .nil
  | _, _, .cons a b => .cons (.dat a) (RVs.of_dq b)
theorem RVs.to_dq {G : Gx} {H : Hp} {as : As} : ∀ {vs : List V} {ds : List PyData}, RVs G H as (ds.map .dat) vs → DqAll G.K H as vs ds
  | _, [], .nil => .nil
  | _, _ :: _, .cons (.dat a) b => .cons a (RVs.to_dq b)

/-! ### the state and the heap -/
mutual
/-- data as a key -/
def nkD : PyData → Option NestedKey
  | .none => some .none
  | .int i => some (.num i)
  | .str x => some (.text x)
  | .tuple l => match nkDs l with
    | some ks => some (.tup ks)
    | none => none
  | _ => none
def nkDs : List PyData → Option (List NestedKey)
  | [] => some []
  | d :: ds => match nkD d, nkDs ds with
    | some k, some ks => some (k :: ks)
    | _, _ => none
end
mutual
theorem nkD_data : ∀ {d : PyData} {k : NestedKey}, nkD d = some k → k.data = d
  | .none, _, e => by unfold nkD at e; cases e; rfl
  | .int i, _, e => by unfold nkD at e; cases e; rfl
  | .str x, _, e => by unfold nkD at e; cases e; rfl
  | .tuple l, k, e => by
    unfold nkD at e
    cases h : nkDs l with
    | none => rw [h] at e; cases e
    | some ks => rw [h] at e; cases e; show PyData.tuple (NestedKey.datas ks) = _; rw [nkDs_data h]
theorem nkDs_data : ∀ {d : List PyData} {k : List NestedKey}, nkDs d = some k → NestedKey.datas k = d
  | [], _, e => by unfold nkDs at e; cases e; rfl
  | d :: ds, k, e => by
    unfold nkDs at e
    cases h1 : nkD d with
    | none => rw [h1] at e; cases e
    | some x =>
      cases h2 : nkDs ds with
      | none => rw [h1, h2] at e; cases e
      | some xs => rw [h1, h2] at e; cases e; show x.data :: NestedKey.datas xs = _; rw [nkD_data h1, nkDs_data h2]
end
mutual
theorem nkD_of : ∀ (k : NestedKey), nkD k.data = some k
  | .none => rfl
  | .num i => rfl
  | .text x => rfl
  | .tup ks => by show nkD (.tuple (NestedKey.datas ks)) = _; unfold nkD; rw [nkDs_of ks]
theorem nkDs_of : ∀ (k : List NestedKey), nkDs (NestedKey.datas k) = some k
  | [] => rfl
  | k :: ks => by show nkDs (k.data :: NestedKey.datas ks) = _; unfold nkDs; rw [nkD_of k, nkDs_of ks]
end
mutual
theorem NKv.of {K : PySem.W.Frag} {H : Hp} {as : As} : ∀ {d : PyData} {v : V} {k : NestedKey}, Dq K H as v d → nkD d = some k → NKv K H k v
  | _, _, _, .non, e => by unfold nkD at e; cases e; exact .none
  | _, _, _, .int i, e => by unfold nkD at e; cases e; exact .num i
  | _, _, _, .str x, e => by unfold nkD at e; cases e; exact .text x
  | _, _, _, .bl b, e => by unfold nkD at e; cases e
  | _, _, _, .lst h r, e => by unfold nkD at e; cases e
  | _, _, _, .tup (ds := ds) h r, e => by
    unfold nkD at e
    cases q : nkDs ds with
    | none => rw [q] at e; cases e
    | some ks => rw [q] at e; cases e; exact .tup h.sq (NKvs.of r q)
theorem NKvs.of {K : PySem.W.Frag} {H : Hp} {as : As} : ∀ {d : List PyData} {v : List V} {k : List NestedKey}, DqAll K H as v d → nkDs d = some k → NKvs K H k v
  | _, _, _, .nil, e => by unfold nkDs at e; cases e; exact .nil
  | _, _, _, .cons (d := d) (ds := ds) a b, e => by
    unfold nkDs at e
    cases h1 : nkD d with
    | none => rw [h1] at e; cases e
    | some x =>
      cases h2 : nkDs ds with
      | none => rw [h1, h2] at e; cases e
      | some xs => rw [h1, h2] at e; cases e; exact .cons (NKv.of a h1) (NKvs.of b h2)
end
/-- a dict's items: its keys, its values -/
structure DicOk (G : Gx) (H : Hp) (as : As) (l : List (PyData × PyData)) (es : Array DictEntry) (kvs : List (NestedKey × V)) : Prop where
  lie : DLie G.K G.w H kvs es
  it : Paired (fun (p : PyData × PyData) (q : NestedKey × V) => p.1 = q.1.data ∧ Dq G.K H as q.2 p.2) l kvs
def LkOk (H : Hp) (a : Addr) (f : Bool) (u : HO) : Prop := if f = true then ∃ od, H a = some (.frz od u) else H a = some u
def CellOk (G : Gx) (H : Hp) (as : As) (a : Addr) : Cell → Prop
  | .lst l => ∃ vs, H a = some (.lst vs) ∧ DqAll G.K H as vs l
  | .dic f l => ∃ es ep kvs, LkOk H a f (rawO a es ep) ∧ DicOk G H as l es kvs
  | .obj c fs => ∃ C dx vfs, c ∈ G.cl ∧ G.mg c = some (.ref C) ∧ H a = some (.ins C dx vfs) ∧ vfs.map (·.1) = fs.map (·.1) ∧ lowF 0 fs = true ∧ RVs G H as (fs.map (·.2)) (vfs.map (·.2))
/-- what a comprehension is filling: a list, a dict -/
def HidO (b : Addr) (u : HO) : Prop := (∃ vs, u = .lst vs) ∨ (∃ es ep, u = rawO b es ep) ∨ ∃ C dx fs, u = .ins C dx fs
theorem HidO.nf {b : Addr} {u : HO} (h : HidO b u) : ¬ Fixd u := by rcases h with ⟨_, rfl⟩ | ⟨_, _, rfl⟩ | ⟨_, _, _, rfl⟩ <;> exact id
structure Rs (G : Gx) (as : As) (st : List Cell) (H : Hp) : Prop where
  nd : as.m.Nodup
  len : as.m.length = st.length
  cell : ∀ (n : Nat) (a : Addr) (c : Cell), as.m[n]? = some a → st[n]? = some c → CellOk G H as a c
  tabs : LamX.Tabs G.T H
  hd : ∀ b, b ∈ as.h → b ∉ as.m ∧ ∃ u, H b = some u ∧ HidO b u
def Mtb (a : Addr) (o : HO) : Prop := (∃ l, o = .lst l) ∨ (∃ es ep, o = rawO a es ep) ∨ (∃ od u, o = .frz od u) ∨ ∃ C dx fs, o = .ins C dx fs
theorem CellOk.there {G : Gx} {H : Hp} {as : As} {a : Addr} {c : Cell} (h : CellOk G H as a c) : ∃ o, H a = some o ∧ Mtb a o := by
  cases c with
  | lst l => obtain ⟨vs, e, _⟩ := h; exact ⟨_, e, .inl ⟨_, rfl⟩⟩
  | dic f l =>
    obtain ⟨es, ep, kvs, e, _⟩ := h
    unfold LkOk at e
    cases f with
    | true => rw [if_pos rfl] at e; obtain ⟨od, e⟩ := e; exact ⟨_, e, .inr (.inr (.inl ⟨_, _, rfl⟩))⟩
    | false => rw [if_neg Bool.false_ne_true] at e; exact ⟨_, e, .inr (.inl ⟨_, _, rfl⟩)⟩
  | obj c fs => obtain ⟨C, dx, vfs, _, _, e, _⟩ := h; exact ⟨_, e, .inr (.inr (.inr ⟨_, _, _, rfl⟩))⟩
theorem heap_sized : ∀ n : Nat, ∃ h : Heap, h.objs.size = n
  | 0 => ⟨{ objs := #[] }, rfl⟩
  | n + 1 => let ⟨h, e⟩ := heap_sized n; ⟨h.push { cls := .none, data := .fields #[] }, by rw [Heap.size_push, e]⟩
/-- a code object is no dict -/
theorem code_raw {c : Addr} {q : Str} {es : Array DictEntry} {ep : Nat} (e : LamX.CodeO c q = rawO c es ep) : False := by
  obtain ⟨h, hs⟩ := heap_sized c
  have e2 : (fun h : Heap => ∃ (oc : Obj) (vs : Array Value) (t : Tok), h.get? c = some oc ∧ oc.data = .fields vs ∧ vs[1]? = some (.str q t)) = fun h : Heap => h.DictRaw c es ep ∧ (c == sysModules) = false ∧ es.size ≤ sizeLine := by
    unfold LamX.CodeO rawO at e
    injection e
  have e3 := congrFun e2 (h.push { cls := .none, data := .fields #[.none, .str q 0] })
  have hg : (h.push { cls := .none, data := .fields #[.none, .str q 0] }).get? c = some { cls := .none, data := .fields #[.none, .str q 0] } := by
    have := Heap.get?_push_size h (o := { cls := .none, data := .fields #[.none, .str q 0] }) rfl
    rw [hs] at this; exact this
  have p := Eq.mp e3 ⟨_, _, 0, hg, rfl, rfl⟩
  obtain ⟨⟨o, h1, _, h3⟩, _⟩ := p
  rw [hg] at h1
  cases h1
  cases h3
section
variable {G : Gx} {as : As} {st : List Cell} {H : Hp} {p : Addr} {o : HO}
theorem Rs.there (h : Rs G as st H) {a : Addr} (ha : as.bad a) : ∃ o, H a = some o ∧ Mtb a o := by
  rcases ha with ha | ha
  · obtain ⟨n, hn⟩ := List.mem_iff_getElem?.mp ha
    have hl : n < st.length := by rw [← h.len]; exact (List.getElem?_eq_some_iff.mp hn).1
    exact (h.cell n a _ hn (List.getElem?_eq_getElem hl)).there
  · obtain ⟨_, u, e, hu⟩ := h.hd a ha
    exact ⟨u, e, hu.imp id (Or.imp id .inr)⟩
theorem Rs.fresh (h : Rs G as st H) (hp : H p = none) : ¬ as.bad p := fun z => by
  obtain ⟨o, e, _⟩ := h.there z
  rw [hp] at e; cases e
theorem Rs.ne (h : Rs G as st H) (hp : H p = some o) (hm : ¬ Mtb p o) : ¬ as.bad p := fun z => by
  obtain ⟨o', e, m⟩ := h.there z
  rw [hp] at e; cases e; exact hm m
/-- a new object that is not changeable -/
theorem Gr.new (rs : Rs G as st H) (h : H p = none) : Gr H as (upd H p o) as :=
  ⟨⟨fun b u e _ => by rw [upd_ne (ne_of_none e h)]; exact e, fun b u e n _ => ⟨by rw [upd_ne (ne_of_none e h)]; exact e, n⟩, List.prefix_refl _⟩, List.suffix_refl _, fun b hb => upd_ne fun z => rs.fresh h (.inr (z ▸ hb))⟩
/-- a changeable object is changed -/
theorem Gr.mut (rs : Rs G as st H) (h : p ∈ as.m) (hu : ∃ u, H p = some u ∧ ¬ Fixd u) : Gr H as (upd H p o) as :=
  ⟨⟨fun b u e f => by
    obtain ⟨u', e', n'⟩ := hu
    rw [upd_ne fun z => n' (by rw [z, e'] at e; cases e; exact f)]; exact e, fun b u e n _ => ⟨by rw [upd_ne (fun z => n (.inl (by rw [z]; exact h)))]; exact e, n⟩, List.prefix_refl _⟩, List.suffix_refl _, fun b hb => upd_ne fun z => (rs.hd b hb).1 (by rw [z]; exact h)⟩
def As.add (as : As) (p : Addr) : As := ⟨as.m ++ [p], as.h⟩
/-- a new changeable object -/
theorem Gr.add (rs : Rs G as st H) (h : H p = none) : Gr H as (upd H p o) (as.add p) :=
  ⟨⟨fun b u e _ => by rw [upd_ne (ne_of_none e h)]; exact e, fun b u e n _ => ⟨by rw [upd_ne (ne_of_none e h)]; exact e, fun z => by
    rcases z with z | z
    · rcases List.mem_append.mp z with z | z
      · exact n (.inl z)
      · exact ne_of_none e h (List.mem_singleton.mp z)
    · exact n (.inr z)⟩, List.prefix_append _ _⟩, List.suffix_refl _, fun b hb => upd_ne fun z => rs.fresh h (.inr (z ▸ hb))⟩
end
theorem Gk.tup {K : PySem.W.Frag} {H H' : Hp} {as as' : As} (g : Gk H as H' as') : TupK K H H' := fun a xs h => by
  rcases h with (h | ⟨o, h⟩) | h
  · exact .inl (.inl (g.fix _ _ h trivial))
  · exact .inl (.inr ⟨o, g.fix _ _ h trivial⟩)
  · exact .inr h
theorem DLie.tup {K : PySem.W.Frag} {w : World} {H H' : Hp} {kvs : List (NestedKey × V)} {es : Array DictEntry} (g : TupK K H H') (h : DLie K w H kvs es) : DLie K w H' kvs es :=
  ⟨Paired.mapP h.ents fun p e z => ⟨let ⟨kv, r1, r2⟩ := z.key; ⟨kv, r1, r2.keep g⟩, z.hash, z.val⟩, h.nd, h.dp⟩
theorem DicOk.gk {G : Gx} {H H' : Hp} {as as' : As} {l : List (PyData × PyData)} {es : Array DictEntry} {kvs : List (NestedKey × V)} (g : Gk H as H' as') (h : DicOk G H as l es kvs) : DicOk G H' as' l es kvs :=
  ⟨h.lie.tup g.tup, Paired.mapP h.it fun p q ⟨e, r⟩ => ⟨e, r.gk g⟩⟩
theorem DicOk.less {G : Gx} {H : Hp} {as as' : As} {l : List (PyData × PyData)} {es : Array DictEntry} {kvs : List (NestedKey × V)} (g : ∀ b, as'.bad b → as.bad b) (h : DicOk G H as l es kvs) : DicOk G H as' l es kvs :=
  ⟨h.lie, Paired.mapP h.it fun p q ⟨e, r⟩ => ⟨e, r.less g⟩⟩
theorem LkOk.at {H H' : Hp} {a : Addr} {f : Bool} {u : HO} (e : H' a = H a) (h : LkOk H a f u) : LkOk H' a f u := by
  unfold LkOk at h ⊢
  rw [e]; exact h
/-- the cells stand where the unchangeable things stay and they themselves do -/
theorem CellOk.gk {G : Gx} {H H' : Hp} {as as' : As} {a : Addr} {c : Cell} (g : Gk H as H' as') (e : H' a = H a) (h : CellOk G H as a c) : CellOk G H' as' a c := by
  cases c with
  | lst l => obtain ⟨vs, e1, q⟩ := h; exact ⟨vs, e.trans e1, q.gk g⟩
  | dic f l => obtain ⟨es, ep, kvs, e1, q⟩ := h; exact ⟨es, ep, kvs, e1.at e, q.gk g⟩
  | obj c fs => obtain ⟨C, dx, vfs, h0, h1, e1, h2, h3, q⟩ := h; exact ⟨C, dx, vfs, h0, h1, e.trans e1, h2, h3, RVs.gk g q⟩
theorem CellOk.gr {G : Gx} {H H' : Hp} {as as' : As} {a : Addr} {c : Cell} (g : Gr H as H' as') (e : H' a = H a) (h : CellOk G H as a c) : CellOk G H' as' a c := h.gk g.toGk e
theorem CellOk.less {G : Gx} {H : Hp} {as as' : As} {a : Addr} {c : Cell} (g : ∀ b, as'.bad b → as.bad b) (h : CellOk G H as a c) : CellOk G H as' a c := by
  cases c with
  | lst l => obtain ⟨vs, e, q⟩ := h; exact ⟨vs, e, q.less g⟩
  | dic f l => obtain ⟨es, ep, kvs, e1, q⟩ := h; exact ⟨es, ep, kvs, e1, q.less g⟩
  | obj c fs => obtain ⟨C, dx, vfs, h0, h1, e1, h2, h3, q⟩ := h; exact ⟨C, dx, vfs, h0, h1, e1, h2, h3, RVs.less0 g q (by rw [← lowF_eq]; exact h3)⟩
theorem tabs_upd {T : List (Addr × Str)} {H : Hp} {p : Addr} {o : HO} (h : LamX.Tabs T H) (hp : H p = none) : LamX.Tabs T (upd H p o) :=
  h.ext fun b u e => by rw [upd_ne (ne_of_none e hp)]; exact e
/-- codes and tables are none of what changes -/
theorem tabs_mut {T : List (Addr × Str)} {H : Hp} {p : Addr} {o u : HO} (h : LamX.Tabs T H) (hp : H p = some u) (hm : Mtb p u) : LamX.Tabs T (upd H p o) := fun q hq => by
  obtain ⟨ps, h1, h2, h3⟩ := h q hq
  refine ⟨ps, ?_, h2, fun pos cv hc => ?_⟩
  · rw [upd_ne fun z => ?_]; exact h1
    rw [z, hp] at h1; cases h1
    rcases hm with ⟨l, e⟩ | ⟨es, ep, e⟩ | ⟨od, v, e⟩ | ⟨C, dx, fs, e⟩ <;> cases e
  · obtain ⟨c, e1, e2⟩ := h3 pos cv hc
    refine ⟨c, e1, ?_⟩
    rw [upd_ne fun z => ?_]; exact e2
    rw [z, hp] at e2; cases e2
    rcases hm with ⟨l, e⟩ | ⟨es, ep, e⟩ | ⟨od, v, e⟩ | ⟨C, dx, fs, e⟩
    · cases e
    · exact code_raw e
    · cases e
    · cases e
section
variable {G : Gx} {as : As} {st : List Cell} {H : Hp} {p : Addr} {o : HO}
theorem Rs.new (h : Rs G as st H) (hp : H p = none) : Rs G as st (upd H p o) :=
  ⟨h.nd, h.len, fun n a c e1 e2 => (h.cell n a c e1 e2).gr (Gr.new h hp) (upd_ne fun z => h.fresh hp (.inl (z ▸ List.mem_of_getElem? e1))), tabs_upd h.tabs hp, fun b hb => ⟨(h.hd b hb).1, by
    obtain ⟨vs, e, hu⟩ := (h.hd b hb).2
    exact ⟨vs, by rw [upd_ne (ne_of_none e hp)]; exact e, hu⟩⟩⟩
theorem Rs.mut {n : Nat} {a : Addr} {c : Cell} (h : Rs G as st H) (ha : as.m[n]? = some a) (hf : ∃ u, H a = some u ∧ ¬ Fixd u) (hc : CellOk G (upd H a o) as a c) : Rs G as (st.set n c) (upd H a o) := by
  obtain ⟨u, hu, mu⟩ := h.there (.inl (List.mem_of_getElem? ha))
  refine ⟨h.nd, by rw [List.length_set]; exact h.len, fun m b d e1 e2 => ?_, tabs_mut h.tabs hu mu, fun b hb => ⟨(h.hd b hb).1, ?_⟩⟩
  · by_cases e : n = m
    · subst e
      rw [ha] at e1; cases e1
      rw [List.getElem?_set_self (by rw [← h.len]; exact (List.getElem?_eq_some_iff.mp ha).1)] at e2
      cases e2
      exact hc
    · rw [List.getElem?_set_ne e] at e2
      refine (h.cell m b d e1 e2).gr (Gr.mut h (List.mem_of_getElem? ha) hf) (upd_ne fun z => e ?_)
      subst z
      have h1 := (List.getElem?_eq_some_iff.mp ha)
      have h2 := (List.getElem?_eq_some_iff.mp e1)
      exact (List.getElem_inj h.nd).mp (h1.2.trans h2.2.symm)
  · obtain ⟨vs, e, hu⟩ := (h.hd b hb).2
    exact ⟨vs, by rw [upd_ne fun z => (h.hd b hb).1 (by rw [z]; exact List.mem_of_getElem? ha)]; exact e, hu⟩
theorem Rs.add {c : Cell} (h : Rs G as st H) (hp : H p = none) (hc : CellOk G (upd H p o) (as.add p) p c) : Rs G (as.add p) (st ++ [c]) (upd H p o) := by
  have hn := h.fresh hp
  refine ⟨List.nodup_append.mpr ⟨h.nd, by simp, fun a ha b hb z => hn (.inl (by rw [List.mem_singleton] at hb; rw [← hb, ← z]; exact ha))⟩, by show (as.m ++ [p]).length = _; simp [h.len], fun m b d e1 e2 => ?_, tabs_upd h.tabs hp, fun b hb => ⟨fun z => ?_, ?_⟩⟩
  · have e1 : (as.m ++ [p])[m]? = some b := e1
    by_cases e : m < as.m.length
    · rw [List.getElem?_append_left e] at e1
      rw [List.getElem?_append_left (by rw [← h.len]; exact e)] at e2
      exact (h.cell m b d e1 e2).gr (Gr.add h hp) (upd_ne fun z => hn (.inl (z ▸ List.mem_of_getElem? e1)))
    · rw [List.getElem?_append_right (by omega)] at e1
      rw [List.getElem?_append_right (by rw [← h.len]; omega), ← h.len] at e2
      have e0 : m - as.m.length = 0 := by
        have := (List.getElem?_eq_some_iff.mp e1).1
        simp at this; omega
      rw [e0] at e1 e2
      simp at e1 e2
      subst e1; subst e2
      exact hc
  · rcases List.mem_append.mp z with z | z
    · exact (h.hd b hb).1 z
    · rw [List.mem_singleton] at z
      obtain ⟨vs, e, _⟩ := (h.hd b hb).2
      rw [z, hp] at e; cases e
  · obtain ⟨vs, e, hu⟩ := (h.hd b hb).2
    exact ⟨vs, by rw [upd_ne (ne_of_none e hp)]; exact e, hu⟩
theorem Gr.bad {H' : Hp} {as' : As} (g : Gr H as H' as') : ∀ b, as.bad b → as'.bad b := fun b z => z.imp (fun z => g.pre.subset z) fun z => g.hid.subset z
/-- what was made since is let go -/
theorem Rs.cut {as' : As} {st' : List Cell} {H' : Hp} (h0 : Rs G as st H) (h : Rs G as' st' H') (g : Gr H as H' as') : Rs G as (st'.take st.length) H' ∧ Gr H as H' as ∧ as'.m.take st.length = as.m := by
  have e0 : as'.m.take as.m.length = as.m := by
    obtain ⟨t, ht⟩ := g.pre
    rw [← ht]; simp
  have le : as.m.length ≤ as'.m.length := g.pre.length_le
  refine ⟨⟨h0.nd, by rw [List.length_take, ← h0.len, ← h.len]; omega, fun m b d e1 e2 => ?_, h.tabs, fun b hb => ⟨(h0.hd b hb).1, ?_⟩⟩, ⟨⟨g.fix, fun b o h1 h2 h3 => ⟨(g.keep b o h1 h2 h3).1, h2⟩, List.prefix_refl _⟩, List.suffix_refl _, g.held⟩, ?_⟩
  · have l1 : m < as.m.length := (List.getElem?_eq_some_iff.mp e1).1
    rw [List.getElem?_take_of_lt (by rw [← h0.len]; exact l1)] at e2
    exact (h.cell m b d (g.get e1) e2).less g.bad
  · rw [g.held b hb]; exact (h0.hd b hb).2
  · rw [← h0.len, e0]
end

/-! ### lists that are being filled -/
def As.push (as : As) (p : Addr) : As := ⟨as.m, p :: as.h⟩
section
variable {G : Gx} {as : As} {st : List Cell} {H : Hp} {p : Addr}
theorem push_bad {b : Addr} (h : (as.push p).bad b) : as.bad b ∨ b = p := by
  rcases h with z | z
  · exact .inl (.inl z)
  · rcases List.mem_cons.mp z with z | z
    · exact .inr z
    · exact .inl (.inr z)
theorem Gr.push {o : HO} (rs : Rs G as st H) (hp : H p = none) : Gr H as (upd H p o) (as.push p) :=
  ⟨⟨fun b u e _ => by rw [upd_ne (ne_of_none e hp)]; exact e, fun b u e n _ => ⟨by rw [upd_ne (ne_of_none e hp)]; exact e, fun z => (push_bad z).elim n fun z => ne_of_none e hp z⟩, List.prefix_refl _⟩, List.suffix_cons _ _, fun b hb => upd_ne fun z => rs.fresh hp (.inr (z ▸ hb))⟩
theorem Rs.push {o : HO} (rs : Rs G as st H) (hp : H p = none) (ho : HidO p o) : Rs G (as.push p) st (upd H p o) :=
  ⟨rs.nd, rs.len, fun n a c e1 e2 => (rs.cell n a c e1 e2).gr (Gr.push rs hp) (upd_ne fun z => rs.fresh hp (.inl (z ▸ List.mem_of_getElem? e1))), tabs_upd rs.tabs hp, fun b hb => by
    rcases List.mem_cons.mp hb with z | z
    · subst z; exact ⟨fun q => rs.fresh hp (.inl q), o, upd_same, ho⟩
    · obtain ⟨h1, ws, h2, hu⟩ := rs.hd b z
      exact ⟨h1, ws, by rw [upd_ne (ne_of_none h2 hp)]; exact h2, hu⟩⟩
theorem Gk.fill {o : HO} (rs : Rs G as st H) (hb : p ∈ as.h) : Gk H as (upd H p o) as :=
  ⟨fun b u e f => by
    obtain ⟨_, v, e', hv⟩ := rs.hd p hb
    rw [upd_ne fun z => hv.nf (by rw [z, e'] at e; cases e; exact f)]; exact e, fun b u e n _ => ⟨by rw [upd_ne fun z => n (.inr (by rw [z]; exact hb))]; exact e, n⟩, List.prefix_refl _⟩
theorem Rs.fill {o : HO} (rs : Rs G as st H) (hb : p ∈ as.h) (ho : HidO p o) : Rs G as st (upd H p o) := by
  obtain ⟨h1, u, h2, hu⟩ := rs.hd p hb
  refine ⟨rs.nd, rs.len, fun n a c e1 e2 => (rs.cell n a c e1 e2).gk (Gk.fill rs hb) (upd_ne fun z => h1 (z ▸ List.mem_of_getElem? e1)), tabs_mut rs.tabs h2 (hu.imp id (Or.imp id .inr)), fun b hb' => ⟨(rs.hd b hb').1, ?_⟩⟩
  by_cases e : b = p
  · subst e; exact ⟨o, upd_same, ho⟩
  · obtain ⟨ws', e', hu'⟩ := (rs.hd b hb').2
    exact ⟨ws', by rw [upd_ne e]; exact e', hu'⟩
/-- fewer lists are told as being filled -/
theorem Rs.hide (rs : Rs G as st H) {as' : As} (em : as'.m = as.m) (hh : as'.h ⊆ as.h) : Rs G as' st H := by
  have bd : ∀ b, as'.bad b → as.bad b := fun b z => z.imp (fun z => by rw [← em]; exact z) fun z => hh z
  exact ⟨by rw [em]; exact rs.nd, by rw [em]; exact rs.len, fun n a c e1 e2 => (rs.cell n a c (by rw [← em]; exact e1) e2).less bd, rs.tabs, fun b hb => by rw [em]; exact rs.hd b (hh hb)⟩
end

/-! ### exceptions, results -/
def FsOk (K : PySem.W.Frag) (H : Hp) (as : As) (vs : List (Str × V)) (fs : List (Str × PyData)) : Prop := vs.map (·.1) = fs.map (·.1) ∧ DqAll K H as (vs.map (·.2)) (fs.map (·.2))
theorem FsOk.gr {K : PySem.W.Frag} {H H' : Hp} {as as' : As} (g : Gr H as H' as') {vs : List (Str × V)} {fs : List (Str × PyData)} (h : FsOk K H as vs fs) : FsOk K H' as' vs fs := ⟨h.1, h.2.gr g⟩
theorem FsOk.less {K : PySem.W.Frag} {H : Hp} {as as' : As} (g : ∀ b, as'.bad b → as.bad b) {vs : List (Str × V)} {fs : List (Str × PyData)} (h : FsOk K H as vs fs) : FsOk K H as' vs fs := ⟨h.1, h.2.less g⟩
/-- an exception as it lies: its class, its own dict -/
def ExnAt (G : Gx) (H : Hp) (as : As) (e : Exn) (cls : Value) (d : Option Addr) : Prop :=
  ∃ C, cls = .ref C ∧ G.mg e.c = some (.ref C) ∧ ((e.fs = [] ∧ d = none) ∨ ∃ dd vfs, d = some dd ∧ H dd = some (.xd vfs) ∧ ¬ as.bad dd ∧ FsOk G.K H as vfs e.fs)
theorem ExnAt.gr {G : Gx} {H H' : Hp} {as as' : As} (g : Gr H as H' as') {e : Exn} {cls : Value} {d : Option Addr} (h : ExnAt G H as e cls d) : ExnAt G H' as' e cls d := by
  obtain ⟨C, e1, e2, h | ⟨dd, vfs, h1, h2, h3, h4⟩⟩ := h
  · exact ⟨C, e1, e2, .inl h⟩
  · obtain ⟨k1, k2⟩ := g.keep _ _ h2 h3 (fun _ z => by cases z)
    exact ⟨C, e1, e2, .inr ⟨dd, vfs, h1, k1, k2, h4.gr g⟩⟩
theorem ExnAt.less {G : Gx} {H : Hp} {as as' : As} (g : ∀ b, as'.bad b → as.bad b) {e : Exn} {cls : Value} {d : Option Addr} (h : ExnAt G H as e cls d) : ExnAt G H as' e cls d := by
  obtain ⟨C, e1, e2, h | ⟨dd, vfs, h1, h2, h3, h4⟩⟩ := h
  · exact ⟨C, e1, e2, .inl h⟩
  · exact ⟨C, e1, e2, .inr ⟨dd, vfs, h1, h2, fun z => h3 (g _ z), h4.less g⟩⟩

/-- what is wanted behind: of a result, of an exception -/
def Post {α β : Type} (G : Gx) (R : Hp → As → α → β → Prop) (H : Hp) (as : As) (E : XK) (Q : β → Hp → Prop) : Out α → Prop
  | .ok d st' => ∀ as' v H', Gr H as H' as' → Rs G as' st' H' → R H' as' d v → Q v H'
  | .exc e st' => ∀ as' cls dd H', Gr H as H' as' → Rs G as' st' H' → ExnAt G H' as' e cls dd → E cls dd H'
  | .bad => False
section
variable {α β γ δ : Type} {G : Gx} {R : Hp → As → α → β → Prop} {R2 : Hp → As → γ → δ → Prop} {H H1 : Hp} {as as1 : As} {E E' : XK} {Q Q' : β → Hp → Prop} {o : Out α}
theorem Post.mono (h : Post G R H as E Q o) (hQ : ∀ v H', Q v H' → Q' v H') : Post G R H as E Q' o := by
  cases o with
  | ok d st => exact fun as' v H' g r q => hQ _ _ (h as' v H' g r q)
  | exc e st => exact h
  | bad => exact h
theorem Post.gr (g : Gr H as H1 as1) (h : Post G R H as E Q o) : Post G R H1 as1 E Q o := by
  cases o with
  | ok d st => exact fun as' v H' g' r q => h as' v H' (g.trans g') r q
  | exc e st => exact fun as' c d H' g' r q => h as' c d H' (g.trans g') r q
  | bad => exact h
/-- behind a first part: what holds there, and the rest -/
theorem Post.bind {k : α → Mo γ} {Q2 : δ → Hp → Prop} (h : Post G R2 H as E Q2 (o.bind k)) :
    Post G R H as E (fun v H1 => ∃ d as1 st1, o = .ok d st1 ∧ Gr H as H1 as1 ∧ Rs G as1 st1 H1 ∧ R H1 as1 d v ∧ Post G R2 H1 as1 E Q2 (k d st1)) o := by
  cases o with
  | ok d st => exact fun as' v H' g r q => ⟨d, as', st, rfl, g, r, q, Post.gr g h⟩
  | exc e st => exact h
  | bad => exact h
theorem Post.ok {d : α} {st : List Cell} {v : β} (h : Post G R H as E Q (.ok d st)) {as' : As} {H' : Hp} (g : Gr H as H' as') (r : Rs G as' st H') (q : R H' as' d v) : Q v H' := h as' v H' g r q
end

/-- there is a function at f -/
def CloObj (G : Gz) (H : Hp) (as : As) (f : Addr) : Prop := PySem.W.FnAt f G.base ∨ ∃ φ, H f = some (.ext φ) ∧ ¬ as.bad f ∧ ∀ h, φ h → PySem.W.FnAt f h
theorem CloObj.gk {G : Gz} {H H' : Hp} {as as' : As} {f : Addr} (x : Gk H as H' as') (h : CloObj G H as f) : CloObj G H' as' f := by
  rcases h with h | ⟨φ, h1, h2, h3⟩
  · exact .inl h
  · obtain ⟨k1, k2⟩ := x.keep _ _ h1 h2 (fun _ z => by cases z)
    exact .inr ⟨φ, k1, k2, h3⟩
/-- a function that was made here: what a call of it is worth -/
def CloOk (G : Gz) (H : Hp) (as : As) (g : List D → Mo D) (v : V) : Prop :=
  ∃ f, v = .ref f ∧ CloObj G H as f ∧
    ∀ (A : Around) (outer : List Env) (s : Shared) (H2 : Hp) (as2 : As) (st2 : List Cell) (us : List Value) (vs : List V) (ds : List D) (Q : VK) (E : XK),
      Gk H as H2 as2 → Room G.kc A → Env0 G.P G.w G.K G.mg G.base A outer s H2 → Rs G as2 st2 H2 → Vals vs us → RVs G H2 as2 ds vs →
      Post G (RV G) H2 as2 E Q (g ds st2) →
      codeAny (model G.P G.w) A (.call (.ref f) ⟨us, []⟩) (CR (L2.CX G.P G.w) outer G.P G.w H2 s Q E) s
theorem Gk.trans {H H1 H2 : Hp} {as as1 as2 : As} (a : Gk H as H1 as1) (b : Gk H1 as1 H2 as2) : Gk H as H2 as2 :=
  ⟨fun c o e f => b.fix c o (a.fix c o e f) f, fun c o e n t => let ⟨e1, n1⟩ := a.keep c o e n t; b.keep c o e1 n1 t, a.pre.trans b.pre⟩
theorem Gk.refl (H : Hp) (as : As) : Gk H as H as := ⟨fun _ _ e _ => e, fun _ _ e n _ => ⟨e, n⟩, List.prefix_refl _⟩
theorem CloOk.gk {G : Gz} {H H' : Hp} {as as' : As} {g : List D → Mo D} {v : V} (x : Gk H as H' as') (h : CloOk G H as g v) : CloOk G H' as' g v := by
  obtain ⟨f, e, h1, h4⟩ := h
  exact ⟨f, e, h1.gk x, fun A outer s H2 as2 st2 us vs ds Q E x2 => h4 A outer s H2 as2 st2 us vs ds Q E (x.trans x2)⟩
theorem CloOk.gr {G : Gz} {H H' : Hp} {as as' : As} {g : List D → Mo D} {v : V} (x : Gr H as H' as') (h : CloOk G H as g v) : CloOk G H' as' g v := h.gk x.toGk
def RC (G : Gz) (H : Hp) (as : As) : DC → V → Prop
  | .v d, v => RV G H as d v
  | .clo g, v => CloOk G H as g v
theorem RC.gk {G : Gz} {H H' : Hp} {as as' : As} (g : Gk H as H' as') {d : DC} {v : V} (h : RC G H as d v) : RC G H' as' d v := by
  cases d with
  | v d => exact RV.gk g h
  | clo g' => exact CloOk.gk g h
theorem RC.gr {G : Gz} {H H' : Hp} {as as' : As} (g : Gr H as H' as') {d : DC} {v : V} (h : RC G H as d v) : RC G H' as' d v := h.gk g.toGk
/-- the names' values -/
structure RE (G : Gz) (H : Hp) (as : As) (ρ : Ev) (σ : L2.St) : Prop where
  len : ρ.length = σ.length
  at_ : ∀ (i : Nat) (d : DC), ρ[i]? = some (some d) → ∃ v, σ[i]? = some (some v) ∧ RC G H as d v
theorem RE.gk {G : Gz} {H H' : Hp} {as as' : As} (g : Gk H as H' as') {ρ : Ev} {σ : L2.St} (h : RE G H as ρ σ) : RE G H' as' ρ σ :=
  ⟨h.len, fun i d e => let ⟨v, e1, r⟩ := h.at_ i d e; ⟨v, e1, r.gk g⟩⟩
theorem RE.gr {G : Gz} {H H' : Hp} {as as' : As} (g : Gr H as H' as') {ρ : Ev} {σ : L2.St} (h : RE G H as ρ σ) : RE G H' as' ρ σ :=
  ⟨h.len, fun i d e => let ⟨v, e1, r⟩ := h.at_ i d e; ⟨v, e1, r.gr g⟩⟩
theorem RE.set {G : Gz} {H : Hp} {as : As} {ρ : Ev} {σ : L2.St} {d : D} {v : V} (h : RE G H as ρ σ) (r : RV G H as d v) (i : Nat) : RE G H as (ρ.set i (some (.v d))) (σ.set i (some v)) := by
  refine ⟨by rw [List.length_set, List.length_set]; exact h.len, fun j e q => ?_⟩
  by_cases z : i = j
  · subst z
    have hl : i < ρ.length := by
      have := (List.getElem?_eq_some_iff.mp q).1
      rwa [List.length_set] at this
    rw [List.getElem?_set_self hl] at q
    cases q
    exact ⟨v, List.getElem?_set_self (by rw [← h.len]; exact hl), r⟩
  · rw [List.getElem?_set_ne z] at q
    obtain ⟨v', e1, r'⟩ := h.at_ j e q
    exact ⟨v', by rw [List.getElem?_set_ne z]; exact e1, r'⟩
/-- names are forgotten -/
def forget (ρ : Ev) : List Nat → Ev
  | [] => ρ
  | v :: vs => (forget ρ vs).set v none
theorem RE.wipe {G : Gz} {H : Hp} {as : As} {ρ : Ev} {σ : L2.St} (h : RE G H as ρ σ) : ∀ vs : List Nat, RE G H as (forget ρ vs) (L2.wipe σ vs)
  | [] => h
  | v :: vs => by
    have ih := RE.wipe h vs
    refine ⟨by unfold forget L2.wipe; rw [List.length_set, List.length_set]; exact ih.len, fun j e q => ?_⟩
    unfold forget at q
    by_cases z : v = j
    · subst z
      have hl : v < (forget ρ vs).length := by
        have := (List.getElem?_eq_some_iff.mp q).1
        rwa [List.length_set] at this
      rw [List.getElem?_set_self hl] at q
      cases q
    · rw [List.getElem?_set_ne z] at q
      obtain ⟨v', e1, r'⟩ := ih.at_ j e q
      exact ⟨v', by unfold L2.wipe; rw [List.getElem?_set_ne z]; exact e1, r'⟩

/-! ### readings that follow a plain function -/
/-- the context X speaks of what G says -/
structure Fits (G : Gx) (X : Cx) : Prop where
  P : X.prog = G.P
  w : X.w = G.w
  K : X.K = G.K
  mg : X.mg = G.mg
def tE (G : Gz) (W : WX) (f : Ev → Mo D) : TE := fun σ H Q => ∃ ρ as st, RE G H as ρ σ ∧ Rs G as st H ∧ Post G (RV G) H as (fun c d H' => W c d σ H') Q (f ρ st)
def tB (G : Gz) (W : WX) (f : Ev → Mo Bool) : TT := fun σ H Q => ∃ ρ as st, RE G H as ρ σ ∧ Rs G as st H ∧ Post G (fun _ _ d v => d = v) H as (fun c d H' => W c d σ H') Q (f ρ st)
def RCs (G : Gz) (H : Hp) (as : As) : List DC → List V → Prop := Paired (RC G H as)
theorem RCs.gr {G : Gz} {H H' : Hp} {as as' : As} (g : Gr H as H' as') : ∀ {ds : List DC} {vs : List V}, RCs G H as ds vs → RCs G H' as' ds vs
  | _, _, .nil => .nil
  | _, _, .cons a b => .cons (RC.gr g a) (RCs.gr g b)
theorem RCs.of {G : Gz} {H : Hp} {as : As} : ∀ {ds : List D} {vs : List V}, RVs G H as ds vs → RCs G H as (ds.map .v) vs
  | _, _, .nil => .nil
  | _, _, .cons a b => .cons (show RC G H as (.v _) _ from a) (RCs.of b)
/-- an argument list; one that may hand on functions -/
def tCc (G : Gz) (W : WX) (f : Ev → Mo (List DC)) : TA := fun σ H Q => ∃ ρ as st, RE G H as ρ σ ∧ Rs G as st H ∧ Post G (RCs G) H as (fun c d H' => W c d σ H') Q (f ρ st)
def tA (G : Gz) (W : WX) (f : Ev → Mo (List D)) : TA := fun σ H Q => ∃ ρ as st, RE G H as ρ σ ∧ Rs G as st H ∧ Post G (RVs G) H as (fun c d H' => W c d σ H') Q (f ρ st)
/-- how a statement ends -/
inductive Fl where
  | nx (ρ : Ev) | rt (d : D) | bk (ρ : Ev) | ct (ρ : Ev)
def PostS (G : Gz) (H : Hp) (as : As) (W : WX) (D : Ends) : Out Fl → Prop
  | .ok (.nx ρ) st => ∀ as' σ' H', Gr H as H' as' → Rs G as' st H' → RE G H' as' ρ σ' → D.nx σ' H'
  | .ok (.bk ρ) st => ∀ as' σ' H', Gr H as H' as' → Rs G as' st H' → RE G H' as' ρ σ' → D.bk σ' H'
  | .ok (.ct ρ) st => ∀ as' σ' H', Gr H as H' as' → Rs G as' st H' → RE G H' as' ρ σ' → D.ct σ' H'
  | .ok (.rt d) st => ∀ as' v H', Gr H as H' as' → Rs G as' st H' → RV G H' as' d v → D.rt v H'
  | .exc e st => ∀ as' cls dd σ' H', Gr H as H' as' → Rs G as' st H' → ExnAt G H' as' e cls dd → W cls dd σ' H'
  | .bad => False
theorem PostS.gr {G : Gz} {H H1 : Hp} {as as1 : As} {W : WX} {D : Ends} {o : Out Fl} (g : Gr H as H1 as1) (h : PostS G H as W D o) : PostS G H1 as1 W D o := by
  cases o with
  | ok f st =>
    cases f with
    | nx ρ => exact fun as' σ' H' g' => h as' σ' H' (g.trans g')
    | bk ρ => exact fun as' σ' H' g' => h as' σ' H' (g.trans g')
    | ct ρ => exact fun as' σ' H' g' => h as' σ' H' (g.trans g')
    | rt d => exact fun as' σ' H' g' => h as' σ' H' (g.trans g')
  | exc e st => exact fun as' c d σ' H' g' => h as' c d σ' H' (g.trans g')
  | bad => exact h
def tS (G : Gz) (W : WX) (f : Ev → Mo Fl) : TS := fun D σ H => ∃ ρ as st, RE G H as ρ σ ∧ Rs G as st H ∧ PostS G H as W D (f ρ st)
/-- an expression's part of a statement -/
theorem PostS.bind {α β : Type} {G : Gz} {R : Hp → As → α → β → Prop} {H : Hp} {as : As} {W : WX} {D : Ends} {σ : L2.St} {o : Out α} {k : α → Mo Fl} (h : PostS G H as W D (o.bind k)) :
    Post G R H as (fun c d H' => W c d σ H') (fun v H1 => ∃ d as1 st1, o = .ok d st1 ∧ Gr H as H1 as1 ∧ Rs G as1 st1 H1 ∧ R H1 as1 d v ∧ PostS G H1 as1 W D (k d st1)) o := by
  cases o with
  | ok d st => exact fun as' v H' g r q => ⟨d, as', st, rfl, g, r, q, PostS.gr g h⟩
  | exc e st => exact fun as' c d H' g r q => h as' c d σ H' g r q
  | bad => exact h
theorem PE.imp {X : Cx} {e : Expr} {t t' : TE} (h : PE X e t) (k : ∀ σ H Q, t' σ H Q → t σ H Q) : PE X e t' := ⟨fun pins s σ H Q I q => h.run pins s σ H Q I (k σ H Q q)⟩
theorem PT.imp {X : Cx} {e : Expr} {t t' : TT} (h : PT X e t) (k : ∀ σ H Q, t' σ H Q → t σ H Q) : PT X e t' := ⟨fun pins s σ H Q I q => h.run pins s σ H Q I (k σ H Q q)⟩
theorem PW.imp {X : Cx} {e : Expr} {t t' : TT} (h : PW X e t) (k : ∀ σ H Q, t' σ H Q → t σ H Q) : PW X e t' := ⟨fun wh pins s σ H Q I q => h.run wh pins s σ H Q I (k σ H Q q)⟩
theorem PA.imp {X : Cx} {e : List Expr} {t t' : TA} (h : PA X e t) (k : ∀ σ H Q, t' σ H Q → t σ H Q) : PA X e t' := ⟨fun p pins s σ H Q I q => h.run p pins s σ H Q I (k σ H Q q)⟩
theorem PS.imp {X : Cx} {e : Stmt} {t t' : TS} (h : PS X e t) (k : ∀ D σ H, t' D σ H → t D σ H) : PS X e t' := ⟨fun pins s σ H D I q => h.run pins s σ H D I (k D σ H q)⟩
theorem PSs.imp {X : Cx} {e : List Stmt} {t t' : TS} (h : PSs X e t) (k : ∀ D σ H, t' D σ H → t D σ H) : PSs X e t' := ⟨fun pins s σ H D I q => h.run pins s σ H D I (k D σ H q)⟩
theorem PTs.imp {X : Cx} {e : List Expr} {t t' : TT} (h : PTs X e t) (k : ∀ σ H Q, t' σ H Q → t σ H Q) : PTs X e t' := ⟨fun pins s σ H Q I q => h.run pins s σ H Q I (k σ H Q q)⟩
end Zp

set_option Elab.async false
set_option linter.all false
set_option autoImplicit false
set_option maxRecDepth 100000
set_option maxHeartbeats 4000000
namespace Zp
open PySem PySem.Spec PyProof.Rows L2
/-! ### what may be read -/
/-- v holds x now (x may be a changeable list's items) -/
def Dr (K : PySem.W.Frag) (H : Hp) (as : As) (v : V) (x : PyData) : Prop :=
  Dq K H as v x ∨ ∃ a vs l, v = .ref a ∧ x = .list l ∧ H a = some (.lst vs) ∧ DqAll K H as vs l
def rdR (n : Nat) : Mo PyData := fun st => match st[n]? with
  | some (.lst l) => .ok (.list l) st
  | _ => .bad
def rd : D → Mo PyData
  | .dat x => ret x
  | .ref n => rdR n
  | _ => stuck
section
variable {K : PySem.W.Frag} {H : Hp} {as : As} {v : V} {x : PyData} {l : List PyData}
theorem Dr.dp (h : Dr K H as v x) : Dp K H v x := by
  rcases h with h | ⟨a, vs, l, rfl, rfl, h1, h2⟩
  · exact h.dp
  · exact .lst (.inl (.inl h1)) h2.dp
theorem Dr.list (h : Dr K H as v (.list l)) : ∃ a vs, v = .ref a ∧ Rd H a (.lst vs) ∧ DqAll K H as vs l := by
  rcases h with h | ⟨a, vs, l, rfl, e, h1, h2⟩
  · cases h with
    | lst h r => exact ⟨_, _, rfl, h.2, r⟩
  · cases e; exact ⟨_, _, rfl, .inl h1, h2⟩
theorem Dr.tuple (h : Dr K H as v (.tuple l)) : ∃ a vs, v = .ref a ∧ ST K H as a vs ∧ DqAll K H as vs l := by
  rcases h with h | ⟨a, vs, l, rfl, e, h1, h2⟩
  · cases h with
    | tup h r => exact ⟨_, _, rfl, h, r⟩
  · cases e
theorem Dr.int {i : Int} (h : Dr K H as v (.int i)) : v = .int i := by
  rcases h with h | ⟨a, vs, l, rfl, e, h1, h2⟩
  · cases h; rfl
  · cases e
theorem Dr.str {i : Str} (h : Dr K H as v (.str i)) : v = .str i := by
  rcases h with h | ⟨a, vs, l, rfl, e, h1, h2⟩
  · cases h; rfl
  · cases e
theorem Dr.bool {i : Bool} (h : Dr K H as v (.bool i)) : v = .bl i := by
  rcases h with h | ⟨a, vs, l, rfl, e, h1, h2⟩
  · cases h; rfl
  · cases e
theorem Dr.none (h : Dr K H as v .none) : v = .non := by
  rcases h with h | ⟨a, vs, l, rfl, e, h1, h2⟩
  · cases h; rfl
  · cases e
end
theorem rd_ok {G : Gx} {H : Hp} {as : As} {st : List Cell} {a : D} {v : V} {β : Type} {γ : Type} {R : Hp → As → β → γ → Prop} {E : XK} {Q : γ → Hp → Prop} {k : PyData → Mo β}
    (rs : Rs G as st H) (r : RV G H as a v) (h : Post G R H as E Q ((rd a st).bind k)) : ∃ x, rd a st = .ok x st ∧ Dr G.K H as v x ∧ Post G R H as E Q (k x st) := by
  cases a with
  | dat x => cases r with | dat r => exact ⟨x, rfl, .inl r, h⟩
  | ref n =>
    cases r with
    | ref ea =>
    have h : Post G R H as E Q ((rdR n st).bind k) := h
    show ∃ x, rdR n st = .ok x st ∧ _
    unfold rdR at h ⊢
    cases e : st[n]? with
    | none => rw [e] at h; exact h.elim
    | some c =>
      cases c with
      | lst l =>
        rw [e] at h
        obtain ⟨vs, h1, h2⟩ := rs.cell n _ _ ea e
        exact ⟨.list l, rfl, .inr ⟨_, vs, l, rfl, rfl, h1, h2⟩, h⟩
      | dic l => rw [e] at h; exact h.elim
      | obj c fs => rw [e] at h; exact h.elim
  | obj c fs => exact h.elim
  | tup l => exact h.elim
  | lst l => exact h.elim

/-! ### the ends of readings -/
section
variable {G : Gx} {H : Hp} {as : As} {st : List Cell} {E : XK} {Q : VK}
theorem fin_dat {d : PyData} {v : V} (rs : Rs G as st H) (h : Post G (RV G) H as E Q (.ok (.dat d) st)) (q : Dq G.K H as v d) : Q v H := h as v H (Gr.refl H as) rs (.dat q)
theorem fin_tup {ds : List PyData} {vs : List V} (rs : Rs G as st H) (h : Post G (RV G) H as E Q (.ok (.dat (.tuple ds)) st)) (q : DqAll G.K H as vs ds) (p : Addr) (hp : H p = none) : Q (.ref p) (upd H p (.tup vs)) :=
  h as (.ref p) _ (Gr.new rs hp) (rs.new hp) (.dat (.tup (.inl ⟨rs.fresh hp, .inl upd_same⟩) (q.gr (Gr.new rs hp))))
theorem fin_lst {ds : List PyData} {vs : List V} (rs : Rs G as st H) (h : Post G (RV G) H as E Q (.ok (.dat (.list ds)) st)) (q : DqAll G.K H as vs ds) (p : Addr) (hp : H p = none) : Q (.ref p) (upd H p (.lst vs)) :=
  h as (.ref p) _ (Gr.new rs hp) (rs.new hp) (.dat (.lst ⟨rs.fresh hp, .inl upd_same⟩ (q.gr (Gr.new rs hp))))
theorem fin_ref {ds : List PyData} {vs : List V} (rs : Rs G as st H) (h : Post G (RV G) H as E Q (.ok (.ref st.length) (st ++ [.lst ds]))) (q : DqAll G.K H as vs ds) (p : Addr) (hp : H p = none) : Q (.ref p) (upd H p (.lst vs)) := by
  refine h (as.add p) (.ref p) _ (Gr.add rs hp) (rs.add hp ⟨vs, upd_same, q.gr (Gr.add rs hp)⟩) (.ref ?_)
  show (as.m ++ [p])[_]? = _
  rw [← rs.len]; simp
end

/-! ### names, constants -/
def cV (i : Nat) (ρ : Ev) : Mo D := match ρ[i]? with
  | some (some (.v d)) => ret d
  | _ => stuck
def cD (d : PyData) (_ : Ev) : Mo D := ret (.dat d)
section
variable {G : Gz} {X : Cx} {W : WX} {pos : Pos}
theorem se_var {i : Nat} {x : Str} (h : PE X (.Name x pos) (tVar i)) : PE X (.Name x pos) (tE G W (cV i)) := PE.imp h fun σ H Q ⟨ρ, as, st, re, rs, hp⟩ => by
  unfold cV at hp
  cases e : ρ[i]? with
  | none => rw [e] at hp; exact hp.elim
  | some o =>
    cases o with
    | none => rw [e] at hp; exact hp.elim
    | some d =>
      cases d with
      | clo g => rw [e] at hp; exact hp.elim
      | v d =>
        rw [e] at hp
        obtain ⟨v, ev, r⟩ := re.at_ i _ e
        exact ⟨v, ev, hp.ok (Gr.refl H as) rs r⟩
theorem se_c {e : Expr} {v : V} {d : PyData} (h : PE X e (tC v)) (q : ∀ H as, Dq G.K H as v d) : PE X e (tE G W (cD d)) := PE.imp h fun σ H Q ⟨ρ, as, st, re, rs, hp⟩ => fin_dat rs hp (q H as)
theorem se_int {i : Int} {j : Nat} : PE X (.Constant (.int i) j pos) (tE G W (cD (.int i))) := se_c pe_int fun _ _ => .int i
theorem se_str {i : Str} {j : Nat} : PE X (.Constant (.str i) j pos) (tE G W (cD (.str i))) := se_c pe_str fun _ _ => .str i
theorem se_bool {i : Bool} {j : Nat} : PE X (.Constant (.bool i) j pos) (tE G W (cD (.bool i))) := se_c pe_bl fun _ _ => .bl i
theorem se_none {j : Nat} : PE X (.Constant .none j pos) (tE G W (cD .none)) := se_c pe_non fun _ _ => .non
end

/-! ### two operands -/
def cOp2 (op : D → D → Mo D) (f g : Ev → Mo D) (ρ : Ev) : Mo D := fun st => (f ρ st).bind fun a st1 => (g ρ st1).bind fun b st2 => op a b st2
def cOp1 (op : D → Mo D) (f : Ev → Mo D) (ρ : Ev) : Mo D := fun st => (f ρ st).bind op
/-- a rule of the layer keeps to a plain operation -/
def Op2 (G : Gx) (r : R2) (op : D → D → Mo D) : Prop := ∀ (H : Hp) (as : As) (st : List Cell) (x y : V) (a b : D) (E : XK) (Q : VK), Rs G as st H → RV G H as a x → RV G H as b y → Post G (RV G) H as E Q (op a b st) → r x y H Q
def Op1 (G : Gx) (r : V → Hp → VK → Prop) (op : D → Mo D) : Prop := ∀ (H : Hp) (as : As) (st : List Cell) (x : V) (a : D) (E : XK) (Q : VK), Rs G as st H → RV G H as a x → Post G (RV G) H as E Q (op a st) → r x H Q
section
variable {G : Gz} {X : Cx} {W : WX} {pos : Pos} {f g : Ev → Mo D} {a b : Expr}
theorem op2_imp {r : R2} {op : D → D → Mo D} (hr : Op2 G r op) (σ : L2.St) (H : Hp) (Q : VK) (h : tE G W (cOp2 op f g) σ H Q) : tOp r (tE G W f) (tE G W g) σ H Q := by
  obtain ⟨ρ, as, st, re, rs, hp⟩ := h
  exact ⟨ρ, as, st, re, rs, (Post.bind hp).mono fun x H1 ⟨a, as1, st1, _, g1, rs1, ra, hp1⟩ => ⟨ρ, as1, st1, re.gr g1, rs1, (Post.bind hp1).mono fun y H2 ⟨b, as2, st2, _, g2, rs2, rb, hp2⟩ => hr H2 as2 st2 x y a b _ Q rs2 (ra.gr g2) rb hp2⟩⟩
theorem op1_imp {r : V → Hp → VK → Prop} {op : D → Mo D} (hr : Op1 G r op) (σ : L2.St) (H : Hp) (Q : VK) (h : tE G W (cOp1 op f) σ H Q) : tUn r (tE G W f) σ H Q := by
  obtain ⟨ρ, as, st, re, rs, hp⟩ := h
  exact ⟨ρ, as, st, re, rs, (Post.bind hp).mono fun x H1 ⟨a, as1, st1, _, g1, rs1, ra, hp1⟩ => hr H1 as1 st1 x a _ Q rs1 ra hp1⟩
theorem se_op {op : Operator} {r : R2} {o : D → D → Mo D} (ho : OpR X (binaryOp op) r) (hr : Op2 G r o) (ha : PE X a (tE G W f)) (hb : PE X b (tE G W g)) : PE X (.BinOp a op b pos) (tE G W (cOp2 o f g)) :=
  PE.imp (pe_op ho ha hb) (op2_imp hr)
theorem se_un {op : UnaryOp} {r : V → Hp → VK → Prop} {o : D → Mo D} (ho : UnR X (unaryOp op) r) (hr : Op1 G r o) (ha : PE X a (tE G W f)) : PE X (.UnaryOp op a pos) (tE G W (cOp1 o f)) :=
  PE.imp (pe_un ho ha) (op1_imp hr)
theorem se_cmp {op : CmpOp} {r : R2} {o : D → D → Mo D} (ho : OpR X (compareOp op) r) (hr : Op2 G r o) (ha : PE X a (tE G W f)) (hb : PE X b (tE G W g)) (hm : behindInMarks op b = false) : PE X (.Compare a [op] [b] pos) (tE G W (cOp2 o f g)) :=
  PE.imp (pe_cmpR ho ha hb hm) (op2_imp hr)
end
/-- from data to data -/
def liftD (f : PyData → PyData → Option PyData) : D → D → Mo D := fun a b st => (rd a st).bind fun x st1 => (rd b st1).bind fun y st2 => match f x y with
  | some z => .ok (.dat z) st2
  | none => .bad
def liftD1 (f : PyData → Option PyData) : D → Mo D := fun a st => (rd a st).bind fun x st1 => match f x with
  | some z => .ok (.dat z) st1
  | none => .bad
theorem lift_op2 {G : Gx} {r : R2} {f : PyData → PyData → Option PyData} (h : ∀ (H : Hp) (as : As) (st : List Cell) (x y : V) (a b z : PyData) (E : XK) (Q : VK), Rs G as st H → Dr G.K H as x a → Dr G.K H as y b → f a b = some z → Post G (RV G) H as E Q (.ok (.dat z) st) → r x y H Q) : Op2 G r (liftD f) := by
  intro H as st x y a b E Q rs ra rb hp
  unfold liftD at hp
  obtain ⟨xa, e1, d1, hp⟩ := rd_ok rs ra hp
  obtain ⟨xb, e2, d2, hp⟩ := rd_ok rs rb hp
  cases e : f xa xb with
  | none => rw [e] at hp; exact hp.elim
  | some z => rw [e] at hp; exact h H as st x y xa xb z E Q rs d1 d2 e hp
theorem lift_op1 {G : Gx} {r : V → Hp → VK → Prop} {f : PyData → Option PyData} (h : ∀ (H : Hp) (as : As) (st : List Cell) (x : V) (a z : PyData) (E : XK) (Q : VK), Rs G as st H → Dr G.K H as x a → f a = some z → Post G (RV G) H as E Q (.ok (.dat z) st) → r x H Q) : Op1 G r (liftD1 f) := by
  intro H as st x a E Q rs ra hp
  unfold liftD1 at hp
  obtain ⟨xa, e1, d1, hp⟩ := rd_ok rs ra hp
  cases e : f xa with
  | none => rw [e] at hp; exact hp.elim
  | some z => rw [e] at hp; exact h H as st x xa z E Q rs d1 e hp
end Zp

set_option Elab.async false
set_option linter.all false
set_option autoImplicit false
set_option maxRecDepth 100000
set_option maxHeartbeats 4000000
namespace Zp
open PySem PySem.Spec PyProof.Rows L2
/-! ### lists that are read -/
section
variable {X : Cx} {pins : List (Addr × Obj)} {σ : L2.St} {H : Hp} {s : Shared} {l : Addr} {xs : List V}
theorem lstR (I : Inv X pins σ H s) (h : Rd H l (.lst xs)) : xs.length ≤ sizeLine ∧ ∃ (its : List Value) (n : Nat), Vals xs its ∧ xs.length = its.length ∧ s.heap.get? l = some { cls := .type "list", data := .seq its.toArray n } := by
  obtain ⟨z, its, n, r, e⟩ := h.ok I.hok
  exact ⟨z, its, n, r, r.length, e⟩
def rCatR : R2 := fun x y H Q => ∃ l b xs zs, x = .ref l ∧ y = .ref b ∧ Rd H l (.lst xs) ∧ Rd H b (.lst zs) ∧ xs.length + zs.length ≤ sizeLine ∧ ∀ p, H p = none → Q (.ref p) (upd H p (.lst (xs ++ zs)))
theorem op_catR : OpR X (binaryOp .Add) rCatR := by
  intro pins s σ H x y v u Q I rx ry h
  obtain ⟨l, b, xs, zs, rfl, rfl, hH, hB, hz, q⟩ := h
  cases rx
  cases ry
  obtain ⟨z, its, n, r, hl, e⟩ := lstR I hH
  obtain ⟨z2, its2, n2, r2, hl2, e2⟩ := lstR I hB
  refine PySem.P.add_list e e2 ?_ (by rw [List.size_toArray, List.size_toArray]; omega)
  have ea : its.toArray ++ its2.toArray = (its ++ its2).toArray := by simp
  rw [ea]
  exact ⟨.ref _, _, I.lnew (t' := s.toks) (r.append r2) (by rw [List.length_append]; omega), rfl, q _ I.fresh⟩
end
def lim : Nat := 16777216
theorem lim_eq : lim = sizeLine := by rw [sizeLine_eq]; rfl

/-! ### + -/
def addD : PyData → PyData → Option PyData
  | .int i, .int j => some (.int (i + j))
  | .str x, .str y => if x.length + y.length ≤ lim then some (.str (x ++ y)) else none
  | .list a, .list b => if a.length + b.length ≤ lim then some (.list (a ++ b)) else none
  | .tuple a, .tuple b => if a.length + b.length ≤ lim then some (.tuple (a ++ b)) else none
  | _, _ => none
def rAdd (K : PySem.W.Frag) : R2 := fun x y H Q => rI0 (fun i j => .int (i + j)) x y H Q ∨ (∃ i j, x = .str i ∧ y = .str j ∧ i.length + j.length ≤ sizeLine ∧ Q (.str (i ++ j)) H) ∨ rCatR x y H Q ∨ rCatA K x y H Q
theorem op_addA {X : Cx} : OpR X (binaryOp .Add) (rAdd X.K) := op_add.or (op_add_str.or (op_catR.or op_catA))
theorem dq_nil_iff {K : PySem.W.Frag} {H : Hp} {as : As} {vs : List V} {ds : List PyData} (h : DqAll K H as vs ds) : vs = [] ↔ ds = [] := by cases h <;> simp
theorem add_op {G : Gx} : Op2 G (rAdd G.K) (liftD addD) := lift_op2 fun H as st x y a b z E Q rs da db e hp => by
  cases a <;> cases b <;> simp only [addD, Option.ite_none_right_eq_some, Option.some.injEq, reduceCtorEq] at e
  case int.int i j => subst e; exact .inl ⟨i, j, da.int, db.int, fin_dat rs hp (.int _)⟩
  case str.str i j =>
    obtain ⟨hz, rfl⟩ := e
    exact .inr (.inl ⟨i, j, da.str, db.str, by rw [← lim_eq]; exact hz, fin_dat rs hp (.str _)⟩)
  case list.list i j =>
    obtain ⟨hz, rfl⟩ := e
    obtain ⟨l, vs, rfl, h1, q1⟩ := da.list
    obtain ⟨l2, vs2, rfl, h2, q2⟩ := db.list
    exact .inr (.inr (.inl ⟨l, l2, vs, vs2, rfl, rfl, h1, h2, by rw [q1.length, q2.length, ← lim_eq]; exact hz, fun p hn => fin_lst rs hp (q1.append q2) p hn⟩))
  case tuple.tuple i j =>
    obtain ⟨hz, rfl⟩ := e
    obtain ⟨l, vs, rfl, h1, q1⟩ := da.tuple
    obtain ⟨l2, vs2, rfl, h2, q2⟩ := db.tuple
    refine .inr (.inr (.inr ⟨l, l2, vs, vs2, rfl, rfl, h1.sq, h2.sq, by rw [q1.length, q2.length, ← lim_eq]; exact hz, fun e => ?_, fun _ e => ?_, fun _ _ p hn => fin_tup rs hp (q1.append q2) p hn⟩))
    · subst e; cases q1; exact fin_dat rs hp (.tup h2 q2)
    · subst e; cases q2; rw [List.append_nil] at hp; exact fin_dat rs hp (.tup h1 q1)
/-- the same, a list that may be changed -/
def mkM (d : PyData) : Mo D := fun st => match d with
  | .list l => .ok (.ref st.length) (st ++ [.lst l])
  | _ => .bad
def liftM (f : PyData → PyData → Option PyData) : D → D → Mo D := fun a b st => (rd a st).bind fun x st1 => (rd b st1).bind fun y st2 => match f x y with
  | some z => mkM z st2
  | none => .bad
theorem addM_op {G : Gx} : Op2 G (rAdd G.K) (liftM addD) := fun H as st x y a b E Q rs ra rb hp => by
  unfold liftM at hp
  obtain ⟨xa, e1, d1, hp⟩ := rd_ok rs ra hp
  obtain ⟨xb, e2, d2, hp⟩ := rd_ok rs rb hp
  cases e : addD xa xb with
  | none => rw [e] at hp; exact hp.elim
  | some z =>
  rw [e] at hp
  have hp : Post G (RV G) H as E Q (mkM z st) := hp
  cases xa <;> cases xb <;> simp only [addD, Option.ite_none_right_eq_some, Option.some.injEq, reduceCtorEq] at e
  case list.list l m =>
    obtain ⟨hz, rfl⟩ := e
    obtain ⟨l, vs, rfl, h1, q1⟩ := d1.list
    obtain ⟨l2, vs2, rfl, h2, q2⟩ := d2.list
    exact .inr (.inr (.inl ⟨l, l2, vs, vs2, rfl, rfl, h1, h2, by rw [q1.length, q2.length, ← lim_eq]; exact hz, fun p hn => fin_ref rs hp (q1.append q2) p hn⟩))
  case int.int i j => subst e; exact hp.elim
  case str.str i j => obtain ⟨_, rfl⟩ := e; exact hp.elim
  case tuple.tuple i j => obtain ⟨_, rfl⟩ := e; exact hp.elim

/-! ### - * // % ** & | << >> -/
def okMul (i j : Int) : Bool := (decide (-(2 ^ 64) < i) && decide (i < 2 ^ 64)) || (decide (-(2 ^ 64) < j) && decide (j < 2 ^ 64))
theorem okMul_ok {i j : Int} (h : okMul i j = true) : CMul i j := by
  unfold okMul at h
  simp only [Bool.or_eq_true, Bool.and_eq_true, decide_eq_true_eq] at h
  exact h
def intD (f : Int → Int → Option Int) : PyData → PyData → Option PyData
  | .int i, .int j => (f i j).map .int
  | _, _ => none
theorem int_op {G : Gx} {C : Int → Int → Prop} {g : Int → Int → Int} {f : Int → Int → Option Int} (h : ∀ i j k, f i j = some k → C i j ∧ k = g i j) : Op2 G (rI C fun i j => .int (g i j)) (liftD (intD f)) := lift_op2 fun H as st x y a b z E Q rs da db e hp => by
  cases a <;> cases b <;> simp only [intD, Option.map_eq_some_iff, reduceCtorEq] at e
  obtain ⟨k, e1, rfl⟩ := e
  obtain ⟨hc, rfl⟩ := h _ _ _ e1
  exact ⟨_, _, da.int, db.int, hc, fin_dat rs hp (.int _)⟩
def subD : PyData → PyData → Option PyData := intD fun i j => some (i - j)
def modD : PyData → PyData → Option PyData := intD fun i j => if 0 < j then some (i % j) else none
def fdivD : PyData → PyData → Option PyData := intD fun i j => if 0 < j ∧ j < 1073741824 then some (i / j) else none
def powD : PyData → PyData → Option PyData := intD fun i j => if 0 ≤ j ∧ j ≤ 1000000 ∧ i.natAbs < 2 ^ 64 then some (i ^ j.toNat) else none
def shlD : PyData → PyData → Option PyData := intD fun i j => if 0 ≤ j ∧ j ≤ 1000000 ∧ i.natAbs < 2 ^ 64 then some (i * 2 ^ j.toNat) else none
def shrD : PyData → PyData → Option PyData := intD fun i j => if 0 ≤ j then some (i / 2 ^ j.toNat) else none
def andD : PyData → PyData → Option PyData := intD fun i j => some (Builtin.bitAnd i j)
def orD : PyData → PyData → Option PyData := intD fun i j => some (Builtin.bitOr i j)
theorem op_subC {X : Cx} : OpR X (binaryOp .Sub) (rI (fun _ _ => True) fun i j => .int (i - j)) := fun pins s σ H x y v u Q I rx ry ⟨i, j, e1, e2, _, q⟩ => op_sub pins s σ H x y v u Q I rx ry ⟨i, j, e1, e2, q⟩
theorem op_andC {X : Cx} : OpR X (binaryOp .BitAnd) (rI (fun _ _ => True) fun i j => .int (Builtin.bitAnd i j)) := fun pins s σ H x y v u Q I rx ry ⟨i, j, e1, e2, _, q⟩ => op_and pins s σ H x y v u Q I rx ry ⟨i, j, e1, e2, q⟩
theorem op_orC {X : Cx} : OpR X (binaryOp .BitOr) (rI (fun _ _ => True) fun i j => .int (Builtin.bitOr i j)) := fun pins s σ H x y v u Q I rx ry ⟨i, j, e1, e2, _, q⟩ => op_or pins s σ H x y v u Q I rx ry ⟨i, j, e1, e2, q⟩
section
variable {G : Gz} {X : Cx} {W : WX} {pos : Pos} {f g : Ev → Mo D} {a b : Expr}
theorem se_add (F : Fits G X) (ha : PE X a (tE G W f)) (hb : PE X b (tE G W g)) : PE X (.BinOp a .Add b pos) (tE G W (cOp2 (liftD addD) f g)) := by
  have h := add_op (G := G)
  rw [← F.K] at h
  exact se_op op_addA h ha hb
theorem se_addM (F : Fits G X) (ha : PE X a (tE G W f)) (hb : PE X b (tE G W g)) : PE X (.BinOp a .Add b pos) (tE G W (cOp2 (liftM addD) f g)) := by
  have h := addM_op (G := G)
  rw [← F.K] at h
  exact se_op op_addA h ha hb
theorem se_sub (ha : PE X a (tE G W f)) (hb : PE X b (tE G W g)) : PE X (.BinOp a .Sub b pos) (tE G W (cOp2 (liftD subD) f g)) := se_op op_subC (int_op (C := fun _ _ => True) fun i j k e => ⟨trivial, (Option.some.inj e).symm⟩) ha hb
theorem se_mod (ha : PE X a (tE G W f)) (hb : PE X b (tE G W g)) : PE X (.BinOp a .Mod b pos) (tE G W (cOp2 (liftD modD) f g)) := se_op op_mod (int_op (C := fun _ j => 0 < j) fun i j k e => by
  simp only [Option.ite_none_right_eq_some, Option.some.injEq] at e; exact ⟨e.1, e.2.symm⟩) ha hb
theorem se_fdiv (ha : PE X a (tE G W f)) (hb : PE X b (tE G W g)) : PE X (.BinOp a .FloorDiv b pos) (tE G W (cOp2 (liftD fdivD) f g)) := se_op op_fdiv (int_op (C := CDiv) fun i j k e => by
  simp only [Option.ite_none_right_eq_some, Option.some.injEq] at e; exact ⟨e.1, e.2.symm⟩) ha hb
theorem se_pow (ha : PE X a (tE G W f)) (hb : PE X b (tE G W g)) : PE X (.BinOp a .Pow b pos) (tE G W (cOp2 (liftD powD) f g)) := se_op op_pow (int_op (C := CPow) fun i j k e => by
  simp only [Option.ite_none_right_eq_some, Option.some.injEq] at e; exact ⟨e.1, e.2.symm⟩) ha hb
theorem se_shl (ha : PE X a (tE G W f)) (hb : PE X b (tE G W g)) : PE X (.BinOp a .LShift b pos) (tE G W (cOp2 (liftD shlD) f g)) := se_op op_shl (int_op (C := CPow) fun i j k e => by
  simp only [Option.ite_none_right_eq_some, Option.some.injEq] at e; exact ⟨e.1, e.2.symm⟩) ha hb
theorem se_shr (ha : PE X a (tE G W f)) (hb : PE X b (tE G W g)) : PE X (.BinOp a .RShift b pos) (tE G W (cOp2 (liftD shrD) f g)) := se_op op_shr (int_op (C := fun _ j => 0 ≤ j) fun i j k e => by
  simp only [Option.ite_none_right_eq_some, Option.some.injEq] at e; exact ⟨e.1, e.2.symm⟩) ha hb
theorem se_and_ (ha : PE X a (tE G W f)) (hb : PE X b (tE G W g)) : PE X (.BinOp a .BitAnd b pos) (tE G W (cOp2 (liftD andD) f g)) := se_op op_andC (int_op (C := fun _ _ => True) fun i j k e => ⟨trivial, (Option.some.inj e).symm⟩) ha hb
theorem se_or_ (ha : PE X a (tE G W f)) (hb : PE X b (tE G W g)) : PE X (.BinOp a .BitOr b pos) (tE G W (cOp2 (liftD orD) f g)) := se_op op_orC (int_op (C := fun _ _ => True) fun i j k e => ⟨trivial, (Option.some.inj e).symm⟩) ha hb
end
/-! ### * -/
section
variable {X : Cx}
theorem tuple_mulW1 (l : Addr) (items : Array Value) (n : Nat) (dd : Option Addr) (sl : Array (Option Value)) (x : Int) (u : Tok) (c0 : (decide (x < -(2 ^ 63)) || decide (x ≥ 2 ^ 63)) = false) (c1 : (items.isEmpty || x == 1) = true) :
    Meets (Builtin.«tuple.__mul__» ⟨[.ref l, .int x u], []⟩) (fun _ R s => s.heap.get? l = some { cls := .type "tuple", dict := dd, data := .seq items n, slots := sl } ∧ R (.ok (.ret (Value.ref l))) s) :=
  .of_wp fun prog w A R s h => by
    obtain ⟨hp, g, d, tk, os⟩ := s
    obtain ⟨hl, h⟩ := h
    have f1 := AutoSeq1.idx_int
    wp_walk using wpAny_loadPart' hl
    repeat (first
      | (refine wpAny_ite_false (decide_eq_false (by rw [c0]; exact Bool.false_ne_true)) ?_; wp_walk using wpAny_loadPart' hl)
      | (refine wpAny_ite_true (decide_eq_true c1) ?_; wp_walk using wpAny_loadPart' hl))
    exact ⟨_, rfl, h⟩
end
section
variable {X : Cx}
def rRepT1 (K : PySem.W.Frag) : R2 := fun x y H Q => ∃ l k xs, x = .ref l ∧ y = .int k ∧ SqT K H l xs ∧ (xs = [] ∨ k = 1) ∧ 1 ≤ k ∧ k ≤ 1000 ∧ Q (.ref l) H
theorem op_repT1 : OpR X (binaryOp .Mult) (rRepT1 X.K) := by
  intro pins s σ H x y v u Q I rx ry h
  obtain ⟨l, k, xs, rfl, rfl, hT, hne, h1, h2, q⟩ := h
  cases rx
  obtain ⟨t, rfl⟩ := ry
  obtain ⟨its, r, ⟨⟨cls, dd, data, sl⟩, ho, hc, n, hd⟩, hs⟩ := I.tuple hT
  simp only at hc hd
  subst hc hd
  have c0 : (decide (k < -(2 ^ 63)) || decide (k ≥ 2 ^ 63)) = false := by
    rw [decide_eq_false (by omega), decide_eq_false (by omega)] <;> rfl
  have c1 : (its.toArray.isEmpty || k == 1) = true := by
    rcases hne with e | e
    · subst e; cases r; rfl
    · subst e; simp
  refine wpAny_binaryOp_repeat_ref (T := "tuple") (U := "int") (by decide) ⟨_, ho, rfl⟩ (fun s' => typeIs_int s' k t) noFill_tuple_mul F.fills_int_mul F.slot_int_rmul repeat_tuple F.slot_int_index.lookup
    (call_meets F.slot_int_rmul (typeIs_int s k t) F.entry_int_rmul (F.args_int_rmul_2 _ _) (int_rmul_tuple k t l its.toArray n dd sl)
      ⟨ho, rfl, ⟨_, ho, rfl⟩, call_meets F.slot_tuple_mul ⟨_, ho, rfl⟩ F.entry_tuple_mul (F.args_tuple_mul_2 _ _) (tuple_mulW1 l its.toArray n dd sl k t c0 c1) ⟨ho, ?_⟩⟩)
  exact ⟨.ref l, H, I, rfl, q⟩
def rRepR : R2 := fun x y H Q => ∃ l k xs, x = .ref l ∧ y = .int k ∧ Rd H l (.lst xs) ∧ -(2 ^ 63) ≤ k ∧ k < 2 ^ 63 ∧ xs.length * k.toNat ≤ sizeLine ∧
  ∀ p, H p = none → Q (.ref p) (upd H p (.lst (List.replicate k.toNat xs).flatten))
theorem op_repR : OpR X (binaryOp .Mult) rRepR := by
  intro pins s σ H x y v u Q I rx ry h
  obtain ⟨l, k, xs, rfl, rfl, hH, h1, h2, hz, q⟩ := h
  cases rx
  obtain ⟨t, rfl⟩ := ry
  obtain ⟨z, its, n, r, hl, e⟩ := lstR I hH
  have hlen : its.toArray.size * k.toNat ≤ sizeLine := by rw [List.size_toArray, ← hl]; exact hz
  have hcap : ¬ its.toArray.size * k.toNat > (2 ^ 63 - 1) / 8 := by
    have : (sizeLine : Nat) ≤ (2 ^ 63 - 1) / 8 := by decide
    omega
  have hfit : ¬ (!Builtin.List.listFitsIndex k) = true := by
    rw [fitsIndex_both h1 h2]
    exact Bool.false_ne_true
  have hlong : ¬ Builtin.List.listTooLong (its.toArray.size * k.toNat) = true := by
    rw [notLongL hlen]
    exact Bool.false_ne_true
  have hnew : List.foldl (fun x1 x2 => x1 ++ x2) #[] (List.replicate (if its.toArray.isEmpty = true then 0 else k.toNat) its.toArray) = (List.replicate k.toNat its).flatten.toArray := by
    rw [size_rep]
    cases its with
    | nil => simp
    | cons a r' => rw [if_neg (by simp)]
  refine wpAny_binaryOp_repeat_ref (T := "list") (U := "int") (by decide) ⟨_, e, rfl⟩ (fun s' => typeIs_int s' k t) noFill_list_mul F.fills_int_mul F.slot_int_rmul repeat_list F.slot_int_index.lookup
    (call_meets F.slot_int_rmul (typeIs_int s k t) F.entry_int_rmul (F.args_int_rmul_2 _ _) (int___rmul___int_list k t l its.toArray n)
      ⟨e, rfl, ⟨_, e, rfl⟩, call_meets F.slot_list_mul ⟨_, e, rfl⟩ F.entry_list_mul (F.args_list_mul_2 _ _) (AutoListH.list___mul___list_int_3 l its.toArray n k t hfit hcap hlong) ⟨e, ?_⟩⟩)
  rw [hnew]
  exact ⟨.ref _, _, I.lnew (t' := s.toks) (r.rep k.toNat) (by rw [PyProof.Rows.lm_len_rep_flat, Nat.mul_comm]; exact hz), rfl, q _ I.fresh⟩
def strRep (x : Str) (k : Nat) : Str := ⟨(List.replicate k x.cps.toList).flatten.toArray⟩
def rRepS : R2 := fun x y H Q => ∃ z k, x = .str z ∧ y = .int k ∧ 0 ≤ k ∧ k ≤ 1000 ∧ z.length ≤ 1000 ∧ Q (.str (strRep z k.toNat)) H
theorem strRep_list (l : List (Array Nat)) (acc : Array Nat) : (l.foldl (· ++ ·) acc) = acc ++ (l.map Array.toList).flatten.toArray := by
  induction l generalizing acc with
  | nil => simp
  | cons a l ih =>
    rw [List.foldl_cons, ih]
    apply Array.ext'
    simp
theorem strRep_of (x : Str) (k : Nat) : (⟨(List.replicate k x.cps).foldl (· ++ ·) #[]⟩ : Str) = strRep x k := by
  rw [strRep_list]
  simp [strRep]
theorem strRep_len (x : Str) (k : Nat) : (strRep x k).length = k * x.length := by
  show (List.replicate k x.cps.toList).flatten.toArray.size = _
  rw [List.size_toArray, PyProof.Rows.lm_len_rep_flat]
  rfl
theorem op_repS : OpR X (binaryOp .Mult) rRepS := by
  intro pins s σ H x y v u Q I rx ry h
  obtain ⟨z, k, rfl, rfl, h1, h2, hz, q⟩ := h
  obtain ⟨t, rfl⟩ := rx
  obtain ⟨t', rfl⟩ := ry
  have hm : z.length * k.toNat ≤ 1000 * 1000 := Nat.mul_le_mul hz (by omega)
  refine P.mul_str ?_ (fun h3 _ => ?_) (fun _ _ => ?_) ?_
  · rw [decide_eq_false (by omega), decide_eq_false (by omega)]; rfl
  · have hk : k = ((k.toNat : Nat) : Int) := by omega
    have h4 : (1000 : Int) * k ≤ 2 ^ 63 - 1 := by omega
    have h5 : (1000 : Int) ≤ (2 ^ 63 - 1) / k := (Int.le_ediv_iff_mul_le (by omega)).mpr h4
    omega
  · show decide (_ > sizeLine) = false
    rw [sizeLine_eq]
    exact decide_eq_false (by omega)
  · by_cases h0 : k < 1
    · rw [if_pos h0]
      have hk : k.toNat = 0 := by omega
      rw [hk] at q
      refine ⟨by decide, .str _, H, I.tok _, ⟨_, rfl⟩, q⟩
    · rw [if_neg h0]
      by_cases h3 : (k == 1 || z.length == 0) = true
      · rw [if_pos h3]
        refine ⟨.str z, H, I, ⟨_, rfl⟩, ?_⟩
        have e : strRep z k.toNat = z := by
          have hx : z.cps.toList = [] ∨ k.toNat = 1 := by
            simp only [Bool.or_eq_true, beq_iff_eq] at h3
            rcases h3 with e | e
            · exact .inr (by omega)
            · exact .inl (List.eq_nil_of_length_eq_zero (show z.cps.size = 0 from e))
          rcases hx with e | e
          · unfold strRep
            rw [e]
            obtain ⟨c⟩ := z
            simp only at e
            have : c = #[] := by simpa using e
            subst this
            simp
          · rw [e]
            unfold strRep
            simp
        rw [e] at q
        exact q
      · rw [if_neg h3, strRep_of]
        refine ⟨?_, .str _, H, I.tok _, ⟨_, rfl⟩, q⟩
        rw [strRep_len, sizeLine_eq, Nat.mul_comm]
        omega
end
def mulD : PyData → PyData → Option PyData
  | .int i, .int j => if okMul i j = true then some (.int (i * j)) else none
  | .str x, .int k => if 0 ≤ k ∧ k ≤ 1000 ∧ x.length ≤ 1000 then some (.str (strRep x k.toNat)) else none
  | .list l, .int k => if 0 ≤ k ∧ k ≤ 1000 ∧ l.length ≤ 1000 then some (.list (List.replicate k.toNat l).flatten) else none
  | .tuple l, .int k => if 1 ≤ k ∧ k ≤ 1000 ∧ l.length ≤ 1000 then some (.tuple (List.replicate k.toNat l).flatten) else none
  | _, _ => none
def rMul (K : PySem.W.Frag) : R2 := fun x y H Q => rI CMul (fun i j => .int (i * j)) x y H Q ∨ rRepS x y H Q ∨ rRepR x y H Q ∨ rRepT1 K x y H Q ∨ rRepT K x y H Q
theorem op_mulA {X : Cx} : OpR X (binaryOp .Mult) (rMul X.K) := op_mul.or (op_repS.or (op_repR.or (op_repT1.or op_repT)))
theorem DqAll.rep {K : PySem.W.Frag} {H : Hp} {as : As} {vs : List V} {ds : List PyData} (h : DqAll K H as vs ds) : ∀ k : Nat, DqAll K H as (List.replicate k vs).flatten (List.replicate k ds).flatten
  | 0 => .nil
  | k + 1 => by
    rw [List.replicate_succ, List.replicate_succ, List.flatten_cons, List.flatten_cons]
    exact h.append (DqAll.rep h k)
theorem rep_lim {n : Nat} {k : Int} (h1 : n ≤ 1000) (h2 : k ≤ 1000) : n * k.toNat ≤ sizeLine := by
  rw [sizeLine_eq]
  have : n * k.toNat ≤ 1000 * 1000 := Nat.mul_le_mul h1 (by omega)
  omega
theorem mul_opG {G : Gx} {H : Hp} {as : As} {st : List Cell} {x y : V} {a b z : PyData} {E : XK} {Q : VK} (rs : Rs G as st H) (da : Dr G.K H as x a) (db : Dr G.K H as y b) (e : mulD a b = some z) (hp : Post G (RV G) H as E Q (.ok (.dat z) st)) : rMul G.K x y H Q := by
  cases a <;> cases b <;> simp only [mulD, Option.ite_none_right_eq_some, Option.some.injEq, reduceCtorEq] at e
  case int.int i j =>
    obtain ⟨hz, rfl⟩ := e
    exact .inl ⟨i, j, da.int, db.int, okMul_ok hz, fin_dat rs hp (.int _)⟩
  case str.int i j =>
    obtain ⟨⟨h1, h2, h3⟩, rfl⟩ := e
    exact .inr (.inl ⟨i, j, da.str, db.int, h1, h2, h3, fin_dat rs hp (.str _)⟩)
  case list.int l k =>
    obtain ⟨⟨h1, h2, h3⟩, rfl⟩ := e
    obtain ⟨p, vs, rfl, hl, q1⟩ := da.list
    exact .inr (.inr (.inl ⟨p, k, vs, rfl, db.int, hl, by omega, by omega, rep_lim (by rw [q1.length]; exact h3) h2, fun p hn => fin_lst rs hp (q1.rep _) p hn⟩))
  case tuple.int l k =>
    obtain ⟨⟨h1, h2, h3⟩, rfl⟩ := e
    obtain ⟨p, vs, rfl, hl, q1⟩ := da.tuple
    by_cases hk : vs = [] ∨ k = 1
    · refine .inr (.inr (.inr (.inl ⟨p, k, vs, rfl, db.int, hl.sq, hk, h1, h2, ?_⟩)))
      have e : (List.replicate k.toNat l).flatten = l := by
        rcases hk with e | e
        · subst e; cases q1; simp
        · subst e; simp
      rw [e] at hp
      exact fin_dat rs hp (.tup hl q1)
    · exact .inr (.inr (.inr (.inr ⟨p, k, vs, rfl, db.int, hl.sq, fun z => hk (.inl z), by omega, h2, by rw [q1.length]; exact h3, fun p hn => fin_tup rs hp (q1.rep _) p hn⟩)))
theorem mul_op {G : Gx} : Op2 G (rMul G.K) (liftD mulD) := lift_op2 fun H as st x y a b z E Q rs da db e hp => mul_opG rs da db e hp
theorem mulM_op {G : Gx} : Op2 G (rMul G.K) (liftM mulD) := fun H as st x y a b E Q rs ra rb hp => by
  unfold liftM at hp
  obtain ⟨xa, e1, d1, hp⟩ := rd_ok rs ra hp
  obtain ⟨xb, e2, d2, hp⟩ := rd_ok rs rb hp
  cases e : mulD xa xb with
  | none => rw [e] at hp; exact hp.elim
  | some z =>
  rw [e] at hp
  have hp : Post G (RV G) H as E Q (mkM z st) := hp
  cases xa <;> cases xb <;> simp only [mulD, Option.ite_none_right_eq_some, Option.some.injEq, reduceCtorEq] at e
  case list.int l k =>
    obtain ⟨⟨h1, h2, h3⟩, rfl⟩ := e
    obtain ⟨p, vs, rfl, hl, q1⟩ := d1.list
    exact .inr (.inr (.inl ⟨p, k, vs, rfl, d2.int, hl, by omega, by omega, rep_lim (by rw [q1.length]; exact h3) h2, fun p hn => fin_ref rs hp (q1.rep _) p hn⟩))
  all_goals (obtain ⟨_, rfl⟩ := e; exact hp.elim)
section
variable {G : Gz} {X : Cx} {W : WX} {pos : Pos} {f g : Ev → Mo D} {a b : Expr}
theorem se_mul (F : Fits G X) (ha : PE X a (tE G W f)) (hb : PE X b (tE G W g)) : PE X (.BinOp a .Mult b pos) (tE G W (cOp2 (liftD mulD) f g)) := by
  have h := mul_op (G := G)
  rw [← F.K] at h
  exact se_op op_mulA h ha hb
theorem se_mulM (F : Fits G X) (ha : PE X a (tE G W f)) (hb : PE X b (tE G W g)) : PE X (.BinOp a .Mult b pos) (tE G W (cOp2 (liftM mulD) f g)) := by
  have h := mulM_op (G := G)
  rw [← F.K] at h
  exact se_op op_mulA h ha hb
end
def negD : PyData → Option PyData
  | .int i => some (.int (-i))
  | _ => none
def invD : PyData → Option PyData
  | .int i => some (.int (Builtin.bitNot i))
  | _ => none
theorem int_op1 {G : Gx} {g : Int → Int} {f : PyData → Option PyData} (h : ∀ a z, f a = some z → ∃ i, a = .int i ∧ z = .int (g i)) : Op1 G (rU fun i => .int (g i)) (liftD1 f) := lift_op1 fun H as st x a z E Q rs da e hp => by
  obtain ⟨i, rfl, rfl⟩ := h a z e
  exact ⟨i, da.int, fin_dat rs hp (.int _)⟩
section
variable {G : Gz} {X : Cx} {W : WX} {pos : Pos} {f : Ev → Mo D} {a : Expr}
theorem se_neg (ha : PE X a (tE G W f)) : PE X (.UnaryOp .USub a pos) (tE G W (cOp1 (liftD1 negD) f)) := se_un un_neg (int_op1 fun a z e => by cases a <;> simp only [negD, Option.some.injEq, reduceCtorEq] at e; exact ⟨_, rfl, e.symm⟩) ha
theorem se_inv (ha : PE X a (tE G W f)) : PE X (.UnaryOp .Invert a pos) (tE G W (cOp1 (liftD1 invD) f)) := se_un un_inv (int_op1 fun a z e => by cases a <;> simp only [invD, Option.some.injEq, reduceCtorEq] at e; exact ⟨_, rfl, e.symm⟩) ha
end
end Zp

set_option Elab.async false
set_option linter.all false
set_option autoImplicit false
set_option maxRecDepth 100000
set_option maxHeartbeats 4000000
namespace Zp
open PySem PySem.Spec PyProof.Rows L2
/-! ### comparisons -/
def isNon : PyData → Bool
  | .none => true
  | _ => false
def okEq (a b : PyData) : Bool := a.plain && b.plain && decide (min a.depth b.depth ≤ 64)
def okLt (a b : PyData) : Bool := PySem.W.alike a b && !isNon a && decide (min a.depth b.depth ≤ 64)
def inD (a : PyData) : PyData → Option Bool
  | .list xs => if PyData.plainAll xs && a.plain && decide (min (PyData.depthAll xs) a.depth ≤ 64) then some (xs.any fun y => PyData.eqv y a) else none
  | .tuple xs => if PyData.plainAll xs && a.plain && decide (min (PyData.depthAll xs) a.depth ≤ 64) then some (xs.any fun y => PyData.eqv y a) else none
  | .str y => match a with
    | .str x => some (!(Builtin.Str.occurrences y x 0 y.length 1).isEmpty)
    | _ => none
  | _ => none
def isD (a : PyData) : PyData → Option Bool
  | .none => some (isNon a)
  | .bool c => match a with
    | .bool d => some (decide (d = c))
    | _ => none
  | _ => none
def cmpD (op : CmpOp) (a b : PyData) : Option Bool := match op with
  | .Eq => if okEq a b then some (PyData.eqv a b) else none
  | .NotEq => if okEq a b then some (!PyData.eqv a b) else none
  | .Lt => if okLt a b then some (PySem.W.dataLt a b) else none
  | .LtE => if okLt a b then some (!PySem.W.dataLt b a) else none
  | .Gt => if okLt a b then some (PySem.W.dataLt b a) else none
  | .GtE => if okLt a b then some (!PySem.W.dataLt a b) else none
  | .In => inD a b
  | .NotIn => (inD a b).map not
  | .Is => isD a b
  | .IsNot => (isD a b).map not
def rCmp (K : PySem.W.Frag) (op : CmpOp) : R2 := fun x y H Q => ∃ a b c, Dp K H x a ∧ Dp K H y b ∧ cmpD op a b = some c ∧ Q (.bl c) H
theorem dp_non_iff {K : PySem.W.Frag} {H : Hp} {x : V} {a : PyData} (h : Dp K H x a) : decide (x = .non) = isNon a := by
  cases h <;> first | rfl | exact decide_eq_false (fun z => by cases z)
theorem op_cmpA {X : Cx} (hu : X.A.units + 200 < cLine) (op : CmpOp) : OpR X (compareOp op) (rCmp X.K op) := by
  intro pins s σ H x y v u Q I rx ry h
  obtain ⟨a, b, c, ha, hb, e, q⟩ := h
  obtain ⟨as, r1⟩ := Dp.reads I a x v ha rx
  obtain ⟨bs, r2⟩ := Dp.reads I b y u hb ry
  have fin : ∀ c', c' = c → EP X pins σ Q (.bool c') s := fun c' e => by subst e; exact ⟨.bl c', H, I, rfl, q⟩
  have eqc : okEq a b = true → a.plain = true ∧ b.plain = true ∧ X.A.units + min a.depth b.depth < cLine := fun z => by
    unfold okEq at z
    simp only [Bool.and_eq_true, decide_eq_true_eq] at z
    exact ⟨z.1.1, z.1.2, by omega⟩
  have ltc : okLt a b = true → PySem.W.alike a b = true ∧ a ≠ .none ∧ X.A.units + min a.depth b.depth < cLine := fun z => by
    unfold okLt at z
    simp only [Bool.and_eq_true, decide_eq_true_eq, Bool.not_eq_true'] at z
    exact ⟨z.1.1, fun w => by rw [w] at z; exact absurd z.1.2 (by decide), by omega⟩
  have inc : ∀ {xs : List PyData}, (PyData.plainAll xs && a.plain && decide (min (PyData.depthAll xs) a.depth ≤ 64)) = true → PyData.plainAll xs = true ∧ a.plain = true ∧ X.A.units + 1 + min (PyData.depthAll xs) a.depth < cLine := fun {xs} z => by
    simp only [Bool.and_eq_true, decide_eq_true_eq] at z
    exact ⟨z.1.1, z.1.2, by omega⟩
  cases op <;> simp only [cmpD, Option.ite_none_right_eq_some, Option.some.injEq, Option.map_eq_some_iff] at e
  case Eq => obtain ⟨z, e⟩ := e; obtain ⟨z1, z2, z3⟩ := eqc z; exact SeqAt.eq_plain r1 r2 z1 z2 z3 (fin _ e)
  case NotEq => obtain ⟨z, e⟩ := e; obtain ⟨z1, z2, z3⟩ := eqc z; exact SeqAt.ne_plain r1 r2 z1 z2 z3 (fin _ e)
  case Lt => obtain ⟨z, e⟩ := e; obtain ⟨z1, z2, z3⟩ := ltc z; exact PySem.W.lt_data r1 r2 z1 z2 z3 (fin _ e)
  case LtE => obtain ⟨z, e⟩ := e; obtain ⟨z1, z2, z3⟩ := ltc z; exact PySem.W.le_data r1 r2 z1 z2 z3 (fin _ e)
  case Gt => obtain ⟨z, e⟩ := e; obtain ⟨z1, z2, z3⟩ := ltc z; exact PySem.W.gt_data r1 r2 z1 z2 z3 (fin _ e)
  case GtE => obtain ⟨z, e⟩ := e; obtain ⟨z1, z2, z3⟩ := ltc z; exact PySem.W.ge_data r1 r2 z1 z2 z3 (fin _ e)
  case In =>
    cases b <;> simp only [inD, Option.ite_none_right_eq_some, Option.some.injEq, reduceCtorEq] at e
    case list xs => obtain ⟨z, e⟩ := e; obtain ⟨z1, z2, z3⟩ := inc z; exact SeqAt.in_list_data r2 r1 z1 z2 z3 (fin _ e)
    case tuple xs => obtain ⟨z, e⟩ := e; obtain ⟨z1, z2, z3⟩ := inc z; exact SeqAt.in_tuple_data r2 r1 z1 z2 z3 (fin _ e)
    case str z =>
      cases a <;> simp only [Option.some.injEq, reduceCtorEq] at e
      cases ha; cases hb
      exact op_in_str pins s σ H _ _ v u Q I rx ry ⟨_, _, rfl, rfl, by rw [e]; exact q⟩
  case NotIn =>
    obtain ⟨c', e, e'⟩ := e
    cases b <;> simp only [inD, Option.ite_none_right_eq_some, Option.some.injEq, reduceCtorEq] at e
    case list xs => obtain ⟨z, e⟩ := e; obtain ⟨z1, z2, z3⟩ := inc z; exact SeqAt.notIn_list_data r2 r1 z1 z2 z3 (fin _ (by rw [e, e']))
    case tuple xs => obtain ⟨z, e⟩ := e; obtain ⟨z1, z2, z3⟩ := inc z; exact SeqAt.notIn_tuple_data r2 r1 z1 z2 z3 (fin _ (by rw [e, e']))
    case str z =>
      cases a <;> simp only [Option.some.injEq, reduceCtorEq] at e
      cases ha; cases hb
      exact op_notIn_str pins s σ H _ _ v u Q I rx ry ⟨_, _, rfl, rfl, by rw [e, e']; exact q⟩
  case Is =>
    cases b <;> simp only [isD, Option.some.injEq, reduceCtorEq] at e
    case none =>
      cases hb
      exact op_isN pins s σ H _ _ v u Q I rx ry ⟨rfl, by rw [dp_non_iff ha, e]; exact q⟩
    case bool d =>
      cases a <;> simp only [Option.some.injEq, reduceCtorEq] at e
      cases ha; cases hb
      exact op_is_bl pins s σ H _ _ v u Q I rx ry ⟨_, _, rfl, rfl, by rw [e]; exact q⟩
  case IsNot =>
    obtain ⟨c', e, e'⟩ := e
    cases b <;> simp only [isD, Option.some.injEq, reduceCtorEq] at e
    case none =>
      cases hb
      exact op_notN pins s σ H _ _ v u Q I rx ry ⟨rfl, by rw [dp_non_iff ha, e, e']; exact q⟩
    case bool d =>
      cases a <;> simp only [Option.some.injEq, reduceCtorEq] at e
      cases ha; cases hb
      exact op_isnot_bl pins s σ H _ _ v u Q I rx ry ⟨_, _, rfl, rfl, by rw [e, e']; exact q⟩
theorem cmp_op {G : Gx} (op : CmpOp) : Op2 G (rCmp G.K op) (liftD fun a b => (cmpD op a b).map .bool) := lift_op2 fun H as st x y a b z E Q rs da db e hp => by
  simp only [Option.map_eq_some_iff] at e
  obtain ⟨c, e1, rfl⟩ := e
  exact ⟨a, b, c, da.dp, db.dp, e1, fin_dat rs hp (.bl _)⟩
def cCmp (op : CmpOp) (f g : Ev → Mo D) : Ev → Mo D := cOp2 (liftD fun a b => (cmpD op a b).map .bool) f g
/-- a chain of two -/
def cChain (op op' : CmpOp) (f g h : Ev → Mo D) (ρ : Ev) : Mo D := fun st => (f ρ st).bind fun a st1 => (g ρ st1).bind fun b st2 => (rd a st2).bind fun xa _ => (rd b st2).bind fun xb _ =>
  match cmpD op xa xb with
  | some true => (h ρ st2).bind fun c st3 => (liftD fun a b => (cmpD op' a b).map .bool) b c st3
  | some false => .ok (.dat (.bool false)) st2
  | none => .bad
section
variable {G : Gz} {X : Cx} {W : WX} {pos : Pos} {f g h : Ev → Mo D} {a b c : Expr}
theorem se_cmpA (F : Fits G X) (hu : X.A.units + 200 < cLine) {op : CmpOp} (ha : PE X a (tE G W f)) (hb : PE X b (tE G W g)) (hm : behindInMarks op b = false) : PE X (.Compare a [op] [b] pos) (tE G W (cCmp op f g)) := by
  have h := cmp_op (G := G) op
  rw [← F.K] at h
  exact se_cmp (op_cmpA hu op) h ha hb hm
theorem chain_imp {op op' : CmpOp} (σ : L2.St) (H : Hp) (Q : VK) (hh : tE G W (cChain op op' f g h) σ H Q) : tChain (rCmp G.K op) (rCmp G.K op') (tE G W f) (tE G W g) (tE G W h) σ H Q := by
  obtain ⟨ρ, as, st, re, rs, hp⟩ := hh
  refine ⟨ρ, as, st, re, rs, (Post.bind hp).mono fun x H1 ⟨a, as1, st1, _, g1, rs1, ra, hp1⟩ => ⟨ρ, as1, st1, re.gr g1, rs1, (Post.bind hp1).mono fun y H2 ⟨b, as2, st2, _, g2, rs2, rb, hp2⟩ => ?_⟩⟩
  obtain ⟨xa, e1, d1, hp2⟩ := rd_ok rs2 (ra.gr g2) hp2
  obtain ⟨xb, e2, d2, hp2⟩ := rd_ok rs2 rb hp2
  cases e : cmpD op xa xb with
  | none => rw [e] at hp2; exact hp2.elim
  | some k =>
    rw [e] at hp2
    refine ⟨xa, xb, k, d1.dp, d2.dp, e, k, rfl, ?_⟩
    cases k with
    | false => rw [if_neg Bool.false_ne_true]; exact fin_dat rs2 hp2 (.bl _)
    | true =>
      rw [if_pos rfl]
      exact ⟨ρ, as2, st2, (re.gr g1).gr g2, rs2, (Post.bind hp2).mono fun z H3 ⟨c, as3, st3, _, g3, rs3, rc, hp3⟩ => cmp_op op' H3 as3 st3 y z b c _ Q rs3 (rb.gr g3) rc hp3⟩
theorem se_chain (F : Fits G X) (hu : X.A.units + 200 < cLine) {op op' : CmpOp} (ha : PE X a (tE G W f)) (hb : PE X b (tE G W g)) (hc : PE X c (tE G W h)) (hm : lastMarks [op, op'] [b, c] = false) :
    PE X (.Compare a [op, op'] [b, c] pos) (tE G W (cChain op op' f g h)) := by
  have e := F.K
  refine PE.imp (pe_chain (op_cmpA hu op) (op_cmpA hu op') ha hb hc hm) ?_
  rw [e]
  exact chain_imp
end

/-! ### truth, tests -/
def truD : PyData → Option Bool
  | .none => some false
  | .bool b => some b
  | .int i => some (i != 0)
  | .str x => if x.length ≤ lim then some ((x.length : Int) != 0) else none
  | .list l => some (!l.isEmpty)
  | .tuple l => some (!l.isEmpty)
  | .dict _ => none
/-- an expression's truth -/
def cTru (f : Ev → Mo D) (ρ : Ev) : Mo Bool := fun st => (f ρ st).bind fun a st1 => (rd a st1).bind fun x st2 => match truD x with
  | some b => .ok b st2
  | none => .bad
/-- a bool's -/
def cBl (f : Ev → Mo D) (ρ : Ev) : Mo Bool := fun st => (f ρ st).bind fun a st1 => match a with
  | .dat (.bool b) => .ok b st1
  | _ => .bad
def cAndT (f g : Ev → Mo Bool) (ρ : Ev) : Mo Bool := fun st => (f ρ st).bind fun b st1 => if b = true then g ρ st1 else .ok false st1
def cOrT (f g : Ev → Mo Bool) (ρ : Ev) : Mo Bool := fun st => (f ρ st).bind fun b st1 => if b = true then .ok true st1 else g ρ st1
def cNotT (f : Ev → Mo Bool) (ρ : Ev) : Mo Bool := fun st => (f ρ st).bind fun b st1 => .ok (!b) st1
def cAnd (f g : Ev → Mo D) (ρ : Ev) : Mo D := fun st => (cBl f ρ st).bind fun b st1 => if b = true then g ρ st1 else .ok (.dat (.bool false)) st1
def cOr (f g : Ev → Mo D) (ρ : Ev) : Mo D := fun st => (cBl f ρ st).bind fun b st1 => if b = true then .ok (.dat (.bool true)) st1 else g ρ st1
def cNot (f : Ev → Mo D) (ρ : Ev) : Mo D := fun st => (cBl f ρ st).bind fun b st1 => .ok (.dat (.bool (!b))) st1
def cIf (t : Ev → Mo Bool) (f g : Ev → Mo D) (ρ : Ev) : Mo D := fun st => (t ρ st).bind fun b st1 => if b = true then f ρ st1 else g ρ st1
theorem tru_data {K : PySem.W.Frag} {H : Hp} {as : As} {v : V} {x : PyData} {k : Bool} (h : Dr K H as v x) (e : truD x = some k) : TruV K v H k := by
  cases x <;> simp only [truD, Option.ite_none_right_eq_some, Option.some.injEq, reduceCtorEq] at e
  case none => rw [h.none]; exact e.symm
  case bool b => rw [h.bool]; exact e.symm
  case int i => rw [h.int]; exact e.symm
  case str y => rw [h.str]; exact ⟨by rw [← lim_eq]; exact e.1, e.2.symm⟩
  case list l =>
    obtain ⟨a, vs, rfl, h1, q⟩ := h.list
    exact .inl ⟨vs, .inl h1, by rw [← e]; cases q <;> rfl⟩
  case tuple l =>
    obtain ⟨a, vs, rfl, h1, q⟩ := h.tuple
    exact .inr (.inl ⟨vs, h1.sq, by rw [← e]; cases q <;> rfl⟩)
/-- a test's end -/
theorem fin_b {G : Gx} {H : Hp} {as : As} {st : List Cell} {E : XK} {Q : Bool → Hp → Prop} {b : Bool} (rs : Rs G as st H) (h : Post G (fun _ _ d v => d = v) H as E Q (.ok b st)) : Q b H := h as b H (Gr.refl H as) rs rfl
section
variable {G : Gz} {X : Cx} {W : WX} {pos : Pos} {f g : Ev → Mo D} {t u : Ev → Mo Bool} {a b c : Expr} {rest : List Expr}
theorem tru_imp (σ : L2.St) (H : Hp) (Q : Bool → Hp → Prop) (h : tB G W (cTru f) σ H Q) : tE G W f σ H fun x H' => ∃ k, TruV G.K x H' k ∧ Q k H' := by
  obtain ⟨ρ, as, st, re, rs, hp⟩ := h
  refine ⟨ρ, as, st, re, rs, (Post.bind hp).mono fun x H1 ⟨a, as1, st1, _, g1, rs1, ra, hp1⟩ => ?_⟩
  obtain ⟨xa, e1, d1, hp1⟩ := rd_ok rs1 ra hp1
  cases e : truD xa with
  | none => rw [e] at hp1; exact hp1.elim
  | some k => rw [e] at hp1; exact ⟨k, tru_data d1 e, fin_b rs1 hp1⟩
theorem st_tru (F : Fits G X) (ha : PE X a (tE G W f)) (he : ∀ whole, isTrue a X.env whole = (do let v ← whole; standAt a.pos; holding [v] (truthy v))) : PT X a (tB G W (cTru f)) := by
  have e := F.K
  refine PT.imp (pt_truth ha he) ?_
  rw [e]
  exact tru_imp
theorem bl_imp (σ : L2.St) (H : Hp) (Q : Bool → Hp → Prop) (h : tB G W (cBl f) σ H Q) : tE G W f σ H fun x H' => ∃ k, x = .bl k ∧ Q k H' := by
  obtain ⟨ρ, as, st, re, rs, hp⟩ := h
  refine ⟨ρ, as, st, re, rs, (Post.bind hp).mono fun x H1 ⟨a, as1, st1, _, g1, rs1, ra, hp1⟩ => ?_⟩
  cases ra with
  | dat r =>
    cases r with
    | bl k => exact ⟨k, rfl, fin_b rs1 hp1⟩
    | _ => exact hp1.elim
  | _ => exact hp1.elim
theorem st_cmp (F : Fits G X) (hu : X.A.units + 200 < cLine) {op : CmpOp} (ha : PE X a (tE G W f)) (hb : PE X b (tE G W g)) (hm : behindInMarks op b = false) : PT X (.Compare a [op] [b] pos) (tB G W (cBl (cCmp op f g))) := by
  have e := F.K
  refine PT.imp (pt_cmpR (op_cmpA hu op) ha hb hm) ?_
  rw [e]
  intro σ H Q h
  have h1 := bl_imp σ H Q h
  exact op2_imp (cmp_op op) σ H _ h1
theorem st_chain (F : Fits G X) (hu : X.A.units + 200 < cLine) {op op' : CmpOp} {h : Ev → Mo D} (ha : PE X a (tE G W f)) (hb : PE X b (tE G W g)) (hc : PE X c (tE G W h)) (hm : lastMarks [op, op'] [b, c] = false) :
    PT X (.Compare a [op, op'] [b, c] pos) (tB G W (cBl (cChain op op' f g h))) := by
  have e := F.K
  refine PT.imp (pt_chain (op_cmpA hu op) (op_cmpA hu op') ha hb hc hm) ?_
  rw [e]
  intro σ H Q hh
  exact chain_imp σ H _ (bl_imp σ H Q hh)
theorem andT_imp (σ : L2.St) (H : Hp) (Q : Bool → Hp → Prop) (h : tB G W (cAndT t u) σ H Q) : tAnd (tB G W t) (tB G W u) σ H Q := by
  obtain ⟨ρ, as, st, re, rs, hp⟩ := h
  refine ⟨ρ, as, st, re, rs, (Post.bind hp).mono fun x H1 ⟨a, as1, st1, _, g1, rs1, ra, hp1⟩ => ?_⟩
  subst ra
  cases a with
  | true => rw [if_pos rfl] at hp1 ⊢; exact ⟨ρ, as1, st1, re.gr g1, rs1, hp1⟩
  | false => rw [if_neg Bool.false_ne_true] at hp1 ⊢; exact fin_b rs1 hp1
theorem orT_imp (σ : L2.St) (H : Hp) (Q : Bool → Hp → Prop) (h : tB G W (cOrT t u) σ H Q) : tOr (tB G W t) (tB G W u) σ H Q := by
  obtain ⟨ρ, as, st, re, rs, hp⟩ := h
  refine ⟨ρ, as, st, re, rs, (Post.bind hp).mono fun x H1 ⟨a, as1, st1, _, g1, rs1, ra, hp1⟩ => ?_⟩
  subst ra
  cases a with
  | true => rw [if_pos rfl] at hp1 ⊢; exact fin_b rs1 hp1
  | false => rw [if_neg Bool.false_ne_true] at hp1 ⊢; exact ⟨ρ, as1, st1, re.gr g1, rs1, hp1⟩
theorem sw_and1 (ha : PT X a (tB G W t)) : PW X (.BoolOp .And [a] pos) (tB G W t) := pw_and1 ha
theorem sw_or1 (ha : PT X a (tB G W t)) : PW X (.BoolOp .Or [a] pos) (tB G W t) := pw_or1 ha
theorem sw_and (ha : PT X a (tB G W t)) (hb : PW X (.BoolOp .And (b :: rest) pos) (tB G W u)) : PW X (.BoolOp .And (a :: b :: rest) pos) (tB G W (cAndT t u)) := PW.imp (pw_and ha hb) andT_imp
theorem sw_or (ha : PT X a (tB G W t)) (hb : PW X (.BoolOp .Or (b :: rest) pos) (tB G W u)) : PW X (.BoolOp .Or (a :: b :: rest) pos) (tB G W (cOrT t u)) := PW.imp (pw_or ha hb) orT_imp
theorem st_w (h : PW X a (tB G W t)) : PT X a (tB G W t) := h.pt
theorem st_not (ha : PT X a (tB G W t)) : PT X (.UnaryOp .Not a pos) (tB G W (cNotT t)) := PT.imp (pt_not ha) fun σ H Q ⟨ρ, as, st, re, rs, hp⟩ =>
  ⟨ρ, as, st, re, rs, (Post.bind hp).mono fun x H1 ⟨a, as1, st1, _, g1, rs1, ra, hp1⟩ => by subst ra; exact fin_b rs1 hp1⟩
theorem se_one {op : BoolOp} (ha : PE X a (tE G W f)) : PE X (.BoolOp op [a] pos) (tE G W f) := pe_one ha
theorem blE {σ : L2.St} {H : Hp} {k : Bool → Mo D} {Q : VK} {ρ : Ev} {as : As} {st : List Cell} (hp : Post G (RV G) H as (fun c d H' => W c d σ H') Q ((cBl f ρ st).bind k)) (rs : Rs G as st H) :
    Post G (RV G) H as (fun c d H' => W c d σ H') (fun x H1 => ∃ b as1 st1, x = .bl b ∧ Gr H as H1 as1 ∧ Rs G as1 st1 H1 ∧ Post G (RV G) H1 as1 (fun c d H' => W c d σ H') Q (k b st1)) (f ρ st) := by
  unfold cBl at hp
  cases e : f ρ st with
  | ok d st1 =>
    rw [e] at hp
    intro as' v H' g r q
    cases q with
    | dat q =>
      cases q with
      | bl b => exact ⟨b, as', st1, rfl, g, r, Post.gr g hp⟩
      | _ => exact hp.elim
    | _ => exact hp.elim
  | exc x st1 => rw [e] at hp; exact hp
  | bad => rw [e] at hp; exact hp
theorem se_and (ha : PE X a (tE G W f)) (hb : PE X (.BoolOp .And (b :: rest) pos) (tE G W g)) : PE X (.BoolOp .And (a :: b :: rest) pos) (tE G W (cAnd f g)) := PE.imp (pe_and ha hb) fun σ H Q ⟨ρ, as, st, re, rs, hp⟩ =>
  ⟨ρ, as, st, re, rs, (blE hp rs).mono fun x H1 ⟨k, as1, st1, e, g1, rs1, hp1⟩ => ⟨k, e, by
    cases k with
    | true => rw [if_pos rfl] at hp1 ⊢; exact ⟨ρ, as1, st1, re.gr g1, rs1, hp1⟩
    | false => rw [if_neg Bool.false_ne_true] at hp1 ⊢; exact fin_dat rs1 hp1 (.bl _)⟩⟩
theorem se_or (ha : PE X a (tE G W f)) (hb : PE X (.BoolOp .Or (b :: rest) pos) (tE G W g)) : PE X (.BoolOp .Or (a :: b :: rest) pos) (tE G W (cOr f g)) := PE.imp (pe_or ha hb) fun σ H Q ⟨ρ, as, st, re, rs, hp⟩ =>
  ⟨ρ, as, st, re, rs, (blE hp rs).mono fun x H1 ⟨k, as1, st1, e, g1, rs1, hp1⟩ => ⟨k, e, by
    cases k with
    | true => rw [if_pos rfl] at hp1 ⊢; exact fin_dat rs1 hp1 (.bl _)
    | false => rw [if_neg Bool.false_ne_true] at hp1 ⊢; exact ⟨ρ, as1, st1, re.gr g1, rs1, hp1⟩⟩⟩
theorem se_not (ha : PE X a (tE G W f)) : PE X (.UnaryOp .Not a pos) (tE G W (cNot f)) := PE.imp (pe_not ha) fun σ H Q ⟨ρ, as, st, re, rs, hp⟩ =>
  ⟨ρ, as, st, re, rs, (blE hp rs).mono fun x H1 ⟨k, as1, st1, e, g1, rs1, hp1⟩ => ⟨k, e, fin_dat rs1 hp1 (.bl _)⟩⟩
theorem se_if (hc : PT X c (tB G W t)) (ha : PE X a (tE G W f)) (hb : PE X b (tE G W g)) : PE X (.IfExp c a b pos) (tE G W (cIf t f g)) := PE.imp (pe_ifExp hc ha hb) fun σ H Q ⟨ρ, as, st, re, rs, hp⟩ =>
  ⟨ρ, as, st, re, rs, (Post.bind hp).mono fun x H1 ⟨a, as1, st1, _, g1, rs1, ra, hp1⟩ => by
    subst ra
    cases a with
    | true => rw [if_pos rfl] at hp1 ⊢; exact ⟨ρ, as1, st1, re.gr g1, rs1, hp1⟩
    | false => rw [if_neg Bool.false_ne_true] at hp1 ⊢; exact ⟨ρ, as1, st1, re.gr g1, rs1, hp1⟩⟩
end
end Zp

set_option Elab.async false
set_option linter.all false
set_option autoImplicit false
set_option maxRecDepth 100000
set_option maxHeartbeats 4000000
namespace Zp
open PySem PySem.Spec PyProof.Rows L2
theorem Out.bind_assoc {α β γ : Type} (o : Out α) (f : α → Mo β) (k : β → Mo γ) : (o.bind f).bind k = o.bind fun a st => (f a st).bind k := by cases o <;> rfl
/-! ### the context of a def's body -/
structure Cz (G : Gx) (X : Cx) (W : WX) (k : Nat) : Prop where
  fit : Fits G X
  tk : Takes X W
  calm : X.calm = true
  room : Room k X.A
  own : PassesOwn (model X.prog X.w) X.A X.env X.xe
theorem Cz.hu {G : Gx} {X : Cx} {W : WX} {k : Nat} (C : Cz G X W k) : X.A.units + 200 < cLine := by have := C.room.un; omega

/-! ### argument lists, displays -/
def cNil (_ : Ev) : Mo (List D) := ret []
def cCons (f : Ev → Mo D) (r : Ev → Mo (List D)) (ρ : Ev) : Mo (List D) := fun st => (f ρ st).bind fun d st1 => (r ρ st1).bind fun ds st2 => .ok (d :: ds) st2
def seqOf : PyData → Option (List D)
  | .list l => some (l.map .dat)
  | .tuple l => some (l.map .dat)
  | _ => none
/-- the items of a list or tuple -/
def itemsOf : D → Mo (List D)
  | .tup l => ret l
  | .lst l => ret l
  | d => fun st => (rd d st).bind fun x st1 => match seqOf x with
    | some l => .ok l st1
    | none => .bad
def cStar (f : Ev → Mo D) (r : Ev → Mo (List D)) (ρ : Ev) : Mo (List D) := fun st => (f ρ st).bind fun d st1 => (itemsOf d st1).bind fun xs st2 => (r ρ st2).bind fun ds st3 => .ok (xs ++ ds) st3
def aNil (_ : Ev) : Mo (List DC) := ret []
def aCons (f : Ev → Mo DC) (r : Ev → Mo (List DC)) (ρ : Ev) : Mo (List DC) := fun st => (f ρ st).bind fun d st1 => (r ρ st1).bind fun ds st2 => .ok (d :: ds) st2
def cVl (f : Ev → Mo D) (ρ : Ev) : Mo DC := fun st => (f ρ st).bind fun d st1 => .ok (.v d) st1
/-- a def that was told of functions of another depth -/
structure Same (G G' : Gz) : Prop where
  e : G'.toGx = G.toGx
def tX (G G' : Gz) (W : WX) (f : Ev → Mo DC) : TE := fun σ H Q => ∃ ρ as st, RE G H as ρ σ ∧ Rs G as st H ∧ Post G (RC G') H as (fun c d H' => W c d σ H') Q (f ρ st)
def tAX (G G' : Gz) (W : WX) (f : Ev → Mo (List DC)) : TA := fun σ H Q => ∃ ρ as st, RE G H as ρ σ ∧ Rs G as st H ∧ Post G (RCs G') H as (fun c d H' => W c d σ H') Q (f ρ st)
theorem items_ok {G : Gx} {H : Hp} {as : As} {st : List Cell} {d : D} {v : V} {β γ : Type} {R : Hp → As → β → γ → Prop} {E : XK} {Q : γ → Hp → Prop} {k : List D → Mo β} (rs : Rs G as st H) (r : RV G H as d v)
    (h : Post G R H as E Q ((itemsOf d st).bind k)) : ∃ a xs l, v = .ref a ∧ itemsOf d st = .ok l st ∧ (SqT G.K H a xs ∨ SqL G.K H a xs) ∧ RVs G H as l xs ∧ Post G R H as E Q (k l st) := by
  have gen : ∀ d, (∀ l, d ≠ D.tup l) → (∀ l, d ≠ D.lst l) → itemsOf d = fun st => (rd d st).bind fun x st1 => match seqOf x with
    | some l => .ok l st1
    | none => .bad := fun d h1 h2 => by
    cases d <;> first | rfl | exact absurd rfl (h1 _) | exact absurd rfl (h2 _)
  have fin : (∀ l, d ≠ D.tup l) → (∀ l, d ≠ D.lst l) → ∃ a xs l, v = .ref a ∧ itemsOf d st = .ok l st ∧ (SqT G.K H a xs ∨ SqL G.K H a xs) ∧ RVs G H as l xs ∧ Post G R H as E Q (k l st) := fun h1 h2 => by
    rw [gen d h1 h2] at h ⊢
    have h' := h
    rw [Out.bind_assoc] at h'
    obtain ⟨x, e1, dr, h'⟩ := rd_ok rs r h'
    cases x with
    | list l =>
      obtain ⟨a, xs, rfl, hl, q⟩ := dr.list
      exact ⟨a, xs, l.map .dat, rfl, by show (rd d st).bind _ = _; rw [e1]; rfl, .inr (.inl hl), RVs.of_dq q, h'⟩
    | tuple l =>
      obtain ⟨a, xs, rfl, hl, q⟩ := dr.tuple
      exact ⟨a, xs, l.map .dat, rfl, by show (rd d st).bind _ = _; rw [e1]; rfl, .inl hl.sq, RVs.of_dq q, h'⟩
    | _ => exact h'.elim
  cases d with
  | tup l =>
    cases r with
    | tup h1 h2 => exact ⟨_, _, l, rfl, rfl, .inl h1.sq, h2, h⟩
  | lst l =>
    cases r with
    | lst h1 h2 => exact ⟨_, _, l, rfl, rfl, .inr h1.sq, h2, h⟩
  | dat x => exact fin (fun _ z => by cases z) fun _ z => by cases z
  | ref n => exact fin (fun _ z => by cases z) fun _ z => by cases z
  | obj c fs => exact fin (fun _ z => by cases z) fun _ z => by cases z
theorem fin_as {G : Gx} {H : Hp} {as : As} {st : List Cell} {E : XK} {Q : List V → Hp → Prop} {ds : List D} {vs : List V} (rs : Rs G as st H) (h : Post G (RVs G) H as E Q (.ok ds st)) (q : RVs G H as ds vs) : Q vs H := h as vs H (Gr.refl H as) rs q
section
variable {G G' : Gz} {X : Cx} {W : WX} {pos : Pos} {f : Ev → Mo D} {r : Ev → Mo (List D)} {e : Expr} {es : List Expr}
theorem sl_nil : PA X [] (tA G W cNil) := PA.imp pa_nil fun σ H Q ⟨ρ, as, st, re, rs, hp⟩ => fin_as rs hp .nil
theorem sl_cons (ha : PE X e (tE G W f)) (hr : PA X es (tA G W r)) (hs : starEach (e :: es) X.env = (false, eval e X.env) :: starEach es X.env := by rfl) : PA X (e :: es) (tA G W (cCons f r)) := PA.imp (pa_cons ha hr hs) fun σ H Q ⟨ρ, as, st, re, rs, hp⟩ =>
  ⟨ρ, as, st, re, rs, (Post.bind hp).mono fun x H1 ⟨a, as1, st1, _, g1, rs1, ra, hp1⟩ => ⟨ρ, as1, st1, re.gr g1, rs1, (Post.bind hp1).mono fun xs H2 ⟨ds, as2, st2, _, g2, rs2, rb, hp2⟩ => fin_as rs2 hp2 (.cons (ra.gr g2) rb)⟩⟩
theorem sl_star (F : Fits G X) {p : Pos} (ha : PE X e (tE G W f)) (hr : PA X es (tA G W r)) (hs : starEach (.Starred e p :: es) X.env = (true, eval e X.env) :: starEach es X.env := by rfl) : PA X (.Starred e p :: es) (tA G W (cStar f r)) := by
  have eK := F.K
  refine PA.imp (StX.pa_star ha hr hs) ?_
  rw [eK]
  intro σ H Q ⟨ρ, as, st, re, rs, hp⟩
  refine ⟨ρ, as, st, re, rs, (Post.bind hp).mono fun x H1 ⟨a, as1, st1, _, g1, rs1, ra, hp1⟩ => ?_⟩
  obtain ⟨p, xs, l, rfl, e1, hq, ql, hp1⟩ := items_ok rs1 ra hp1
  exact ⟨p, xs, rfl, hq, ρ, as1, st1, re.gr g1, rs1, (Post.bind hp1).mono fun ys H2 ⟨ds, as2, st2, _, g2, rs2, rb, hp2⟩ => fin_as rs2 hp2 ((RVs.gr g2 ql).append rb)⟩
/-- a call's arguments: values, or functions that are handed on -/
theorem sx_val (hs : Same G G') (ha : PE X e (tE G W f)) : PE X e (tX G G' W (cVl f)) := PE.imp ha fun σ H Q ⟨ρ, as, st, re, rs, hp⟩ => ⟨ρ, as, st, re, rs, (Post.bind hp).mono fun x H1 ⟨a, as1, st1, _, g1, rs1, ra, hp1⟩ => hp1 as1 x H1 (Gr.refl _ _) rs1 (by show RV G'.toGx H1 as1 a x; rw [hs.e]; exact ra)⟩
theorem sa_nil : PA X [] (tAX G G' W aNil) := PA.imp pa_nil fun σ H Q ⟨ρ, as, st, re, rs, hp⟩ => hp as [] H (Gr.refl _ _) rs .nil
theorem sa_cons {fx : Ev → Mo DC} {rx : Ev → Mo (List DC)} (ha : PE X e (tX G G' W fx)) (hr : PA X es (tAX G G' W rx)) (hs : starEach (e :: es) X.env = (false, eval e X.env) :: starEach es X.env := by rfl) : PA X (e :: es) (tAX G G' W (aCons fx rx)) := PA.imp (pa_cons ha hr hs) fun σ H Q ⟨ρ, as, st, re, rs, hp⟩ =>
  ⟨ρ, as, st, re, rs, (Post.bind hp).mono fun x H1 ⟨a, as1, st1, _, g1, rs1, ra, hp1⟩ => ⟨ρ, as1, st1, re.gr g1, rs1, (Post.bind hp1).mono fun xs H2 ⟨ds, as2, st2, _, g2, rs2, rb, hp2⟩ => hp2 as2 _ H2 (Gr.refl _ _) rs2 (.cons (RC.gr g2 ra) rb)⟩⟩
end

/-! ### displays -/
def datAll : List D → Option (List PyData)
  | [] => some []
  | .dat d :: r => (datAll r).map (d :: ·)
  | _ => none
theorem datAll_some : ∀ {ds : List D} {l : List PyData}, datAll ds = some l → ds = l.map .dat
  | [], l, e => by cases e; rfl
  | .dat d :: r, l, e => by
    simp only [datAll, Option.map_eq_some_iff] at e
    obtain ⟨m, e1, rfl⟩ := e
    rw [datAll_some e1]; rfl
  | .ref _ :: _, _, e => by cases e
  | .obj _ _ :: _, _, e => by cases e
  | .tup _ :: _, _, e => by cases e
  | .lst _ :: _, _, e => by cases e
def mkTup (ds : List D) : D := match datAll ds with
  | some l => .dat (.tuple l)
  | none => .tup ds
def mkLst (ds : List D) : D := match datAll ds with
  | some l => .dat (.list l)
  | none => .lst ds
def cTup (f : Ev → Mo (List D)) (ρ : Ev) : Mo D := fun st => (f ρ st).bind fun ds st1 => if ds.length ≤ lim then .ok (mkTup ds) st1 else .bad
def cLst (f : Ev → Mo (List D)) (ρ : Ev) : Mo D := fun st => (f ρ st).bind fun ds st1 => if ds.length ≤ lim then .ok (mkLst ds) st1 else .bad
def cLstM (f : Ev → Mo (List D)) (ρ : Ev) : Mo D := fun st => (f ρ st).bind fun ds st1 => if ds.length ≤ lim then (match datAll ds with
  | some l => .ok (.ref st1.length) (st1 ++ [.lst l])
  | none => .bad) else .bad
section
variable {G : Gx} {H : Hp} {as : As} {st : List Cell} {E : XK} {Q : VK} {ds : List D} {vs : List V}
theorem fin_tupD (rs : Rs G as st H) (h : Post G (RV G) H as E Q (.ok (mkTup ds) st)) (q : RVs G H as ds vs) (p : Addr) (hp : H p = none) : Q (.ref p) (upd H p (.tup vs)) := by
  unfold mkTup at h
  cases e : datAll ds with
  | some l =>
    rw [e] at h
    rw [datAll_some e] at q
    exact fin_tup rs h (RVs.to_dq q) p hp
  | none =>
    rw [e] at h
    exact h as (.ref p) _ (Gr.new rs hp) (rs.new hp) (.tup (.inl ⟨rs.fresh hp, .inl upd_same⟩) (RVs.gr (Gr.new rs hp) q))
theorem fin_lstD (rs : Rs G as st H) (h : Post G (RV G) H as E Q (.ok (mkLst ds) st)) (q : RVs G H as ds vs) (p : Addr) (hp : H p = none) : Q (.ref p) (upd H p (.lst vs)) := by
  unfold mkLst at h
  cases e : datAll ds with
  | some l =>
    rw [e] at h
    rw [datAll_some e] at q
    exact fin_lst rs h (RVs.to_dq q) p hp
  | none =>
    rw [e] at h
    exact h as (.ref p) _ (Gr.new rs hp) (rs.new hp) (.lst (.inl ⟨rs.fresh hp, .inl upd_same⟩) (RVs.gr (Gr.new rs hp) q))
end
section
variable {G : Gz} {X : Cx} {W : WX} {pos : Pos} {f : Ev → Mo (List D)} {es : List Expr}
theorem se_tup {x1 : Nat} (h : PA X es (tA G W f)) : PE X (.Tuple es x1 pos) (tE G W (cTup f)) := PE.imp (pe_tup h) fun σ H Q ⟨ρ, as, st, re, rs, hp⟩ => ⟨ρ, as, st, re, rs, (Post.bind hp).mono fun xs H1 ⟨ds, as1, st1, _, g1, rs1, ra, hp1⟩ => by
  by_cases hz : ds.length ≤ lim
  · rw [if_pos hz] at hp1
    exact ⟨by rw [← ra.length, ← lim_eq]; exact hz, fun p hn => fin_tupD rs1 hp1 ra p hn⟩
  · rw [if_neg hz] at hp1; exact hp1.elim⟩
theorem se_lst (h : PA X es (tA G W f)) : PE X (.List es pos) (tE G W (cLst f)) := PE.imp (pe_lst h) fun σ H Q ⟨ρ, as, st, re, rs, hp⟩ => ⟨ρ, as, st, re, rs, (Post.bind hp).mono fun xs H1 ⟨ds, as1, st1, _, g1, rs1, ra, hp1⟩ => by
  by_cases hz : ds.length ≤ lim
  · rw [if_pos hz] at hp1
    exact ⟨by rw [← ra.length, ← lim_eq]; exact hz, fun p hn => fin_lstD rs1 hp1 ra p hn⟩
  · rw [if_neg hz] at hp1; exact hp1.elim⟩
theorem se_lstM (h : PA X es (tA G W f)) : PE X (.List es pos) (tE G W (cLstM f)) := PE.imp (pe_lst h) fun σ H Q ⟨ρ, as, st, re, rs, hp⟩ => ⟨ρ, as, st, re, rs, (Post.bind hp).mono fun xs H1 ⟨ds, as1, st1, _, g1, rs1, ra, hp1⟩ => by
  by_cases hz : ds.length ≤ lim
  · rw [if_pos hz] at hp1
    cases e : datAll ds with
    | none => rw [e] at hp1; exact hp1.elim
    | some l =>
      rw [e] at hp1
      have hlen := ra.length
      rw [datAll_some e] at ra
      exact ⟨by rw [← hlen, ← lim_eq]; exact hz, fun p hn => fin_ref rs1 hp1 (RVs.to_dq ra) p hn⟩
  · rw [if_neg hz] at hp1; exact hp1.elim⟩
end

/-! ### defs -/
/-- what a def is worth -/
def spOf (G : Gz) (n : Nat) (f : List DC → Mo D) : Sp := fun vs H Q E => ∃ ds as st, ds.length = n ∧ RCs G H as ds vs ∧ Rs G as st H ∧ Post G (RV G) H as E Q (f ds st)
theorem spOf_len {G : Gz} {n : Nat} {f : List DC → Mo D} {ps : List Str} (h : n = ps.length) : ∀ vs H Q E, spOf G n f vs H Q E → vs.length = ps.length := fun vs H Q E ⟨ds, as, st, e, r, _⟩ => by
  rw [← h, ← e]; exact (Paired.length r).symm
def cCall (g : List DC → Mo D) (f : Ev → Mo (List DC)) (ρ : Ev) : Mo D := fun st => (f ρ st).bind g
theorem Post.same {α β : Type} {G G' : Gz} (h : Same G G') {R : Gx → Hp → As → α → β → Prop} {H : Hp} {as : As} {E : XK} {Q : β → Hp → Prop} {o : Out α} (p : Post G (R G) H as E Q o) : Post G' (R G') H as E Q o := by rw [h.e]; exact p
section
variable {G G' : Gz} {X : Cx} {W : WX} {k j n : Nat} {pos p : Pos} {fa : Addr} {fd : FuncData} {ps : List Str} {x : Str} {e : Expr} {es : List Expr} {g : List DC → Mo D} {f : Ev → Mo (List DC)}
theorem call_imp (hs : Same G G') (hl : ∀ ρ st ds st', f ρ st = .ok ds st' → ds.length = n) (σ : L2.St) (H : Hp) (Q : VK) (h : tE G W (cCall g f) σ H Q) : tCallS (spOf G' n g) (WE W) (tAX G G' W f) σ H Q := by
  obtain ⟨ρ, as, st, re, rs, hp⟩ := h
  refine ⟨ρ, as, st, re, rs, (Post.bind hp).mono fun xs H1 ⟨ds, as1, st1, e1, g1, rs1, ra, hp1⟩ => ⟨ds, as1, st1, hl _ _ _ _ e1, ra, ?_, ?_⟩⟩
  · rw [hs.e]; exact rs1
  · rw [hs.e]; exact hp1
theorem se_call (C : Cz G X W k) (hs : Same G G') (F : FnOk X.prog X.w X.K X.mg X.base (L2.CX X.prog X.w) j fa fd ps (spOf G' n g)) (hj : j ≤ k) (hg : Gl X x) (hm : X.mg x = some (.ref fa)) (hk : PySem.W.keepIn X.K (.ref fa) = true) (hb : Binds X.K fd ps [])
    (hl : ∀ ρ st ds st', f ρ st = .ok ds st' → ds.length = n) (ha : PA X (e :: es) (tAX G G' W f)) (hdb : (x == ("__debug__" : Str)) = false := by decide) (he : starEach (e :: es) X.env = (false, eval e X.env) :: starEach es X.env := by rfl) (hpl : (backTo pos (starEach es X.env)).any (·.1) = false := by rfl) :
    PE X (.Call (.Name x p) (e :: es) [] pos) (tE G W (cCall g f)) :=
  PE.imp (pe_callS F (C.room.mono hj) hg hm hk hb (passAt C.tk) ha hdb he hpl) (call_imp hs hl)
theorem len_nil : ∀ ρ st ds st', aNil ρ st = .ok ds st' → ds.length = 0 := fun ρ st ds st' e => by cases e; rfl
theorem len_cons {fx : Ev → Mo DC} {rx : Ev → Mo (List DC)} {n : Nat} (h : ∀ ρ st ds st', rx ρ st = .ok ds st' → ds.length = n) : ∀ ρ st ds st', aCons fx rx ρ st = .ok ds st' → ds.length = n + 1 := fun ρ st ds st' e => by
  unfold aCons at e
  cases e1 : fx ρ st with
  | ok d st1 =>
    rw [e1] at e
    have e : (rx ρ st1).bind (fun ds st2 => .ok (d :: ds) st2) = .ok ds st' := e
    cases e2 : rx ρ st1 with
    | ok ds1 st2 => rw [e2] at e; cases e; rw [List.length_cons, h _ _ _ _ e2]
    | exc x s => rw [e2] at e; cases e
    | bad => rw [e2] at e; cases e
  | exc x s => rw [e1] at e; cases e
  | bad => rw [e1] at e; cases e
end
end Zp

set_option Elab.async false
set_option linter.all false
set_option autoImplicit false
set_option maxRecDepth 100000
set_option maxHeartbeats 4000000
namespace Zp
open PySem PySem.Spec PyProof.Rows L2
/-! ### statements -/
abbrev Cs := Ev → Mo Fl
def sNx : Cs := fun ρ => ret (.nx ρ)
def sSeq (f g : Cs) : Cs := fun ρ st => (f ρ st).bind fun fl st1 => match fl with
  | .nx ρ1 => g ρ1 st1
  | fl => .ok fl st1
def sAsg (i : Nat) (f : Ev → Mo D) : Cs := fun ρ st => (f ρ st).bind fun d st1 => .ok (.nx (ρ.set i (some (.v d)))) st1
def sEx (f : Ev → Mo D) : Cs := fun ρ st => (f ρ st).bind fun _ st1 => .ok (.nx ρ) st1
def sRet (f : Ev → Mo D) : Cs := fun ρ st => (f ρ st).bind fun d st1 => .ok (.rt d) st1
def sRetN : Cs := fun _ => ret (.rt (.dat .none))
def sIf (t : Ev → Mo Bool) (f g : Cs) : Cs := fun ρ st => (t ρ st).bind fun b st1 => if b = true then f ρ st1 else g ρ st1
def sBrk : Cs := fun ρ => ret (.bk ρ)
def sCont : Cs := fun ρ => ret (.ct ρ)
def sNo : Cs := fun _ => stuck
section
variable {G : Gz} {X : Cx} {W : WX} {k : Nat} {pos : Pos} {f g : Cs} {t : Ev → Mo Bool} {c : Ev → Mo D} {e : Expr} {s : Stmt} {ss a b : List Stmt}
theorem ss_nil : PSs X [] (tS G W sNx) := PSs.imp pss_nil fun D σ H ⟨ρ, as, st, re, rs, hp⟩ => hp as σ H (Gr.refl _ _) rs re
theorem seq_imp (D : Ends) (σ : L2.St) (H : Hp) (h : tS G W (sSeq f g) D σ H) : tSeq (tS G W f) (tS G W g) D σ H := by
  obtain ⟨ρ, as, st, re, rs, hp⟩ := h
  refine ⟨ρ, as, st, re, rs, ?_⟩
  unfold sSeq at hp
  cases ef : f ρ st with
  | ok fl st1 =>
    rw [ef] at hp
    cases fl with
    | nx ρ1 => exact fun as' σ' H' g' r q => ⟨ρ1, as', st1, q, r, PostS.gr g' hp⟩
    | rt d => exact hp
    | bk ρ1 => exact hp
    | ct ρ1 => exact hp
  | exc x st1 => rw [ef] at hp; exact hp
  | bad => rw [ef] at hp; exact hp
theorem ss_cons (h1 : PS X s (tS G W f)) (h2 : PSs X ss (tS G W g)) : PSs X (s :: ss) (tS G W (sSeq f g)) := PSs.imp (pss_cons h1 h2) seq_imp
theorem ss_one (h1 : PS X s (tS G W f)) : PSs X [s] (tS G W f) := pss_one h1
theorem sp_pass : PS X (.Pass pos) (tS G W sNx) := PS.imp ps_pass fun D σ H ⟨ρ, as, st, re, rs, hp⟩ => hp as σ H (Gr.refl _ _) rs re
theorem sp_brk : PS X (.Break pos) (tS G W sBrk) := PS.imp ps_break fun D σ H ⟨ρ, as, st, re, rs, hp⟩ => hp as σ H (Gr.refl _ _) rs re
theorem sp_cont : PS X (.Continue pos) (tS G W sCont) := PS.imp ps_continue fun D σ H ⟨ρ, as, st, re, rs, hp⟩ => hp as σ H (Gr.refl _ _) rs re
theorem sp_no : PS X s (tS G W sNo) := PS.imp ps_never fun D σ H ⟨ρ, as, st, re, rs, hp⟩ => hp
theorem sp_ex (he : PE X e (tE G W c)) (hs : swapsWith e none pos.line X.env = pure false := by rfl) : PS X (.Expr e pos) (tS G W (sEx c)) := PS.imp (ps_expr he hs) fun D σ H ⟨ρ, as, st, re, rs, hp⟩ =>
  ⟨ρ, as, st, re, rs, (PostS.bind hp).mono fun x H1 ⟨d, as1, st1, _, g1, rs1, ra, hp1⟩ => hp1 as1 σ H1 (Gr.refl _ _) rs1 (re.gr g1)⟩
theorem sp_ret (he : PE X e (tE G W c)) : PS X (.Return (some e) pos) (tS G W (sRet c)) := PS.imp (ps_ret he) fun D σ H ⟨ρ, as, st, re, rs, hp⟩ =>
  ⟨ρ, as, st, re, rs, (PostS.bind hp).mono fun x H1 ⟨d, as1, st1, _, g1, rs1, ra, hp1⟩ => hp1 as1 x H1 (Gr.refl _ _) rs1 ra⟩
theorem sp_retN : PS X (.Return none pos) (tS G W sRetN) := PS.imp ps_retN fun D σ H ⟨ρ, as, st, re, rs, hp⟩ => hp as .non H (Gr.refl _ _) rs (.dat .non)
theorem sp_if (hc : PT X e (tB G W t)) (ha : PSs X a (tS G W f)) (hb : PSs X b (tS G W g)) : PS X (.If e a b pos) (tS G W (sIf t f g)) := PS.imp (ps_if hc ha hb) fun D σ H ⟨ρ, as, st, re, rs, hp⟩ =>
  ⟨ρ, as, st, re, rs, (PostS.bind hp).mono fun x H1 ⟨d, as1, st1, _, g1, rs1, ra, hp1⟩ => by
    subst ra
    cases d with
    | true => rw [if_pos rfl] at hp1 ⊢; exact ⟨ρ, as1, st1, re.gr g1, rs1, hp1⟩
    | false => rw [if_neg Bool.false_ne_true] at hp1 ⊢; exact ⟨ρ, as1, st1, re.gr g1, rs1, hp1⟩⟩
theorem asg_imp {i : Nat} (D : Ends) (σ : L2.St) (H : Hp) (h : tS G W (sAsg i c) D σ H) : tAsg (tE G W c) (gName i) D σ H := by
  obtain ⟨ρ, as, st, re, rs, hp⟩ := h
  exact ⟨ρ, as, st, re, rs, (PostS.bind hp).mono fun x H1 ⟨d, as1, st1, _, g1, rs1, ra, hp1⟩ => hp1 as1 _ H1 (Gr.refl _ _) rs1 ((re.gr g1).set ra i)⟩
theorem sp_asg {i : Nat} {x : Str} {pos' : Pos} (hN : X.N.Nodup) (hi : X.N[i]? = some x) (hx : Loc X.env.scope x) (he : PE X e (tE G W c)) (hs : swapsWith e (some (.Name x pos')) pos.line X.env = pure false := by rfl) (hf : X.fn x = true ∨ X.env.scope.names.lookup x = some .local := by first | exact .inl rfl | exact .inr rfl | assumption) :
    PS X (.Assign [.Name x pos'] e pos) (tS G W (sAsg i c)) := PS.imp (ps_set hN hi hx he hs hf) asg_imp
end

/-! ### targets -/
abbrev Tg := D → Ev → Mo Ev
def tG (G : Gz) (W : WX) (t : Tg) : TG := fun v σ H Q => ∃ ρ d as st, RE G H as ρ σ ∧ RV G H as d v ∧ Rs G as st H ∧ Post G (RE G) H as (fun c d H' => ∀ σ', W c d σ' H') Q (t d ρ st)
def gN (i : Nat) : Tg := fun d ρ st => .ok (ρ.set i (some (.v d))) st
abbrev Tgs := List D → Ev → Mo Ev
def tGs (G : Gz) (W : WX) (t : Tgs) : TGs := fun vs σ H Q => ∃ ρ ds as st, RE G H as ρ σ ∧ RVs G H as ds vs ∧ Rs G as st H ∧ Post G (RE G) H as (fun c d H' => ∀ σ', W c d σ' H') Q (t ds ρ st)
def gsNil : Tgs := fun ds ρ st => match ds with
  | [] => .ok ρ st
  | _ => .bad
def gsCons (t : Tg) (u : Tgs) : Tgs := fun ds ρ st => match ds with
  | d :: r => (t d ρ st).bind fun ρ1 st1 => u r ρ1 st1
  | [] => .bad
def tupOf : D → Option (List D)
  | .tup l => some l
  | .dat (.tuple l) => some (l.map .dat)
  | _ => none
def gT (n : Nat) (u : Tgs) : Tg := fun d ρ st => match tupOf d with
  | some l => if l.length = n then u l ρ st else .bad
  | none => .bad
/-- a[i] = v, by values: a list's place -/
def putAt (o : D) (i : D) (v : D) : Mo Unit := fun st => match o, i, v with
  | .ref n, .dat (.int k), .dat x => match st[n]? with
    | some (.lst l) => match ixN l.length k with
      | some j => .ok () (st.set n (.lst (l.set j x)))
      | none => .bad
    | _ => .bad
  | _, _, _ => .bad
def gSubL (fo fi : Ev → Mo D) : Tg := fun v ρ st => (fo ρ st).bind fun o st1 => (fi ρ st1).bind fun i st2 => (putAt o i v st2).bind fun _ st3 => .ok ρ st3
theorem tup_ok {G : Gx} {H : Hp} {as : As} {d : D} {v : V} {l : List D} (h : RV G H as d v) (e : tupOf d = some l) : ∃ a xs, v = .ref a ∧ SqT G.K H a xs ∧ RVs G H as l xs := by
  cases d with
  | tup m => cases e; cases h with | tup h1 h2 => exact ⟨_, _, rfl, h1.sq, h2⟩
  | dat x =>
    cases x with
    | tuple m => cases e; cases h with | dat h => cases h with | tup h1 h2 => exact ⟨_, _, rfl, h1.sq, RVs.of_dq h2⟩
    | _ => cases e
  | _ => cases e
section
variable {G : Gz} {X : Cx} {W : WX} {k : Nat} {pos : Pos} {t : Tg} {u : Tgs} {fo fi : Ev → Mo D} {c : Ev → Mo D} {e o i : Expr} {es : List Expr}
theorem PG.imp {t t' : TG} (h : PG X e t) (k : ∀ v σ H Q, t' v σ H Q → t v σ H Q) : PG X e t' := ⟨fun pins s σ H v u Q I r q => h.run pins s σ H v u Q I r (k v σ H Q q)⟩
theorem PGs.imp {t t' : TGs} (h : PGs X es t) (k : ∀ v σ H Q, t' v σ H Q → t v σ H Q) : PGs X es t' := ⟨fun pins s σ H v u Q I r q => h.run pins s σ H v u Q I r (k v σ H Q q)⟩
theorem sg_name {i : Nat} {x : Str} (hN : X.N.Nodup) (hi : X.N[i]? = some x) (hx : Loc X.env.scope x) (hf : X.fn x = true ∨ X.env.scope.names.lookup x = some .local := by first | exact .inl rfl | exact .inr rfl | assumption) : PG X (.Name x pos) (tG G W (gN i)) :=
  PG.imp (pg_name hN hi hx hf) fun v σ H Q ⟨ρ, d, as, st, re, rd, rs, hp⟩ => hp as _ H (Gr.refl _ _) rs (re.set rd i)
theorem sgs_nil : PGs X [] (tGs G W gsNil) := PGs.imp pgs_nil fun vs σ H Q ⟨ρ, ds, as, st, re, rd, rs, hp⟩ => by
  cases ds with
  | nil => cases rd; exact ⟨rfl, hp as _ H (Gr.refl _ _) rs re⟩
  | cons d r => exact hp.elim
theorem sgs_cons (h1 : PG X e (tG G W t)) (h2 : PGs X es (tGs G W u)) (hs : (assignEach (e :: es) X.env).map (·.2) = assign e X.env :: (assignEach es X.env).map (·.2) := by rfl) : PGs X (e :: es) (tGs G W (gsCons t u)) := PGs.imp (pgs_cons h1 h2 hs) fun vs σ H Q ⟨ρ, ds, as, st, re, rd, rs, hp⟩ => by
  cases ds with
  | nil => exact hp.elim
  | cons d r =>
    cases rd with
    | cons r1 r2 =>
      exact ⟨_, _, rfl, ρ, d, as, st, re, r1, rs, (Post.bind hp).mono fun σ' H1 ⟨ρ1, as1, st1, _, g1, rs1, ra, hp1⟩ => ⟨ρ1, r, as1, st1, ra, RVs.gr g1 r2, rs1, hp1⟩⟩
theorem sg_tup (F : Fits G X) {n m : Nat} (hc : X.calm = true) (h : PGs X es (tGs G W u)) (hn : (assignEach es X.env).length = n := by rfl) (hst : (assignEach es X.env).findIdx? (·.1) = none := by rfl) : PG X (.Tuple es m pos) (tG G W (gT n u)) := by
  have eK := F.K
  refine PG.imp (pg_tup hc h hn hst) ?_
  rw [eK]
  intro v σ H Q ⟨ρ, d, as, st, re, rd, rs, hp⟩
  unfold gT at hp
  cases e : tupOf d with
  | none => rw [e] at hp; exact hp.elim
  | some l =>
    rw [e] at hp
    obtain ⟨a, xs, rfl, h1, h2⟩ := tup_ok rd e
    have hp : Post G (RE G) H as (fun c d H' => ∀ σ', W c d σ' H') Q (if l.length = n then u l ρ st else .bad) := hp
    by_cases hl : l.length = n
    · rw [if_pos hl] at hp
      exact ⟨a, xs, rfl, h1, by rw [← h2.length]; exact hl, ρ, l, as, st, re, h2, rs, hp⟩
    · rw [if_neg hl] at hp; exact hp.elim
theorem put_ok {G : Gx} {H : Hp} {as : As} {st : List Cell} {o i v : D} {ov iv vv : V} {β γ : Type} {R : Hp → As → β → γ → Prop} {E : XK} {Q : γ → Hp → Prop} {k : Unit → Mo β} (rs : Rs G as st H) (ro : RV G H as o ov) (ri : RV G H as i iv) (rv : RV G H as v vv)
    (h : Post G R H as E Q ((putAt o i v st).bind k)) : ∃ p xs n j st', ov = .ref p ∧ iv = .int n ∧ H p = some (.lst xs) ∧ ixN xs.length n = some j ∧ Gr H as (upd H p (.lst (xs.set j vv))) as ∧ Rs G as st' (upd H p (.lst (xs.set j vv))) ∧ Post G R H as E Q (k () st') := by
  unfold putAt at h
  split at h
  · rename_i n m x
    cases ro with
    | ref ea =>
    cases ri with
    | dat ri =>
    cases ri with
    | int =>
    cases rv with
    | dat rv =>
    split at h
    · rename_i l el
      obtain ⟨vs, h1, h2⟩ := rs.cell _ _ _ ea el
      split at h
      · rename_i j ej
        refine ⟨_, vs, m, j, _, rfl, rfl, h1, by rw [h2.length]; exact ej, Gr.mut rs (List.mem_of_getElem? ea) ⟨_, h1, id⟩, rs.mut (c := .lst (l.set j x)) ea ⟨_, h1, id⟩ ⟨_, upd_same, (h2.set rv j).gr (Gr.mut rs (List.mem_of_getElem? ea) ⟨_, h1, id⟩)⟩, h⟩
      · exact h.elim
    · exact h.elim
  · exact h.elim
theorem sg_sub (ho : PE X o (tE G (fun c d _ H => ∀ σ, W c d σ H) fo)) (hi : PE X i (tE G (fun c d _ H => ∀ σ, W c d σ H) fi))
    (ha : ∀ v, assign (.Subscript o i pos) X.env v = (do
      let ov ← holding [v] (eval o X.env)
      let iv ← holding [v, ov] (eval i X.env)
      standAt pos
      holding [v, ov, iv] (setItem ov iv v)
      release [v, ov, iv] []) := by intro _; rfl) : PG X (.Subscript o i pos) (tG G W (gSubL fo fi)) :=
  PG.imp (pg_sub ho hi set_list ha) fun v σ H Q ⟨ρ, d, as, st, re, rd, rs, hp⟩ =>
    ⟨ρ, as, st, re, rs, (Post.bind hp).mono fun x H1 ⟨ov, as1, st1, _, g1, rs1, ra, hp1⟩ => ⟨ρ, as1, st1, re.gr g1, rs1, (Post.bind hp1).mono fun y H2 ⟨iv, as2, st2, _, g2, rs2, rb, hp2⟩ => by
      obtain ⟨p, xs, n, j, st3, rfl, rfl, h1, h2, g3, rs3, hp3⟩ := put_ok rs2 (ra.gr g2) rb ((rd.gr g1).gr g2) hp2
      exact ⟨p, xs, n, j, rfl, rfl, h1, h2, hp3 as2 σ _ g3 rs3 (((re.gr g1).gr g2).gr g3)⟩⟩⟩
/-- target = value -/
def sAsgG (t : Tg) (f : Ev → Mo D) : Cs := fun ρ st => (f ρ st).bind fun d st1 => (t d ρ st1).bind fun ρ1 st2 => .ok (.nx ρ1) st2
theorem sp_asgG {tg : Expr} (he : PE X e (tE G W c)) (hg : PG X tg (tG G W t)) (hs : swapsWithSole [tg] e pos.line X.env = pure false := by rfl) (hw : swappedStores [tg] e X.env = pure none := by rfl)
    (h1 : (assignEach [tg] X.env).map (·.2) = [assign tg X.env] := by rfl) : PS X (.Assign [tg] e pos) (tS G W (sAsgG t c)) := PS.imp (ps_asg he hg hs hw h1) fun D σ H ⟨ρ, as, st, re, rs, hp⟩ =>
  ⟨ρ, as, st, re, rs, (PostS.bind hp).mono fun x H1 ⟨d, as1, st1, _, g1, rs1, ra, hp1⟩ => ⟨ρ, d, as1, st1, re.gr g1, ra, rs1, by
    cases e : t d ρ st1 with
    | ok ρ1 st2 => rw [e] at hp1; exact fun as' σ' H' g r q => hp1 as' σ' H' g r q
    | exc x s => rw [e] at hp1; exact fun as' c d H' g r q σ' => hp1 as' c d σ' H' g r q
    | bad => rw [e] at hp1; exact hp1⟩⟩
end
/-- a, b = x, y -/
def sPar (i j : Nat) (f : Ev → Mo (List D)) : Cs := fun ρ st => (f ρ st).bind fun ds st1 => match ds with
  | [a, b] => .ok (.nx ((ρ.set i (some (.v a))).set j (some (.v b)))) st1
  | _ => .bad
def sPar3 (i j l : Nat) (f : Ev → Mo (List D)) : Cs := fun ρ st => (f ρ st).bind fun ds st1 => match ds with
  | [a, b, c] => .ok (.nx (((ρ.set i (some (.v a))).set j (some (.v b))).set l (some (.v c)))) st1
  | _ => .bad
section
variable {G : Gz} {X : Cx} {W : WX} {pos : Pos} {f : Ev → Mo (List D)} {a b c : Expr}
theorem sp_par {i j : Nat} {x y : Str} {px py pt : Pos} {kt k2 : Nat} {pt2 : Pos} (hc : X.calm = true) (hN : X.N.Nodup) (hi : X.N[i]? = some x) (hj : X.N[j]? = some y) (hij : i ≠ j)
    (hx : X.env.scope.names.lookup x = some .local) (hy : X.env.scope.names.lookup y = some .local) (ha : PA X [a, b] (tA G W f))
    (hw : swappedStores [.Tuple [.Name x px, .Name y py] kt pt] (.Tuple [a, b] k2 pt2) X.env = pure (some [x, y]))
    (hs : swapsWithSole [.Tuple [.Name x px, .Name y py] kt pt] (.Tuple [a, b] k2 pt2) pos.line X.env = pure false := by rfl) :
    PS X (.Assign [.Tuple [.Name x px, .Name y py] kt pt] (.Tuple [a, b] k2 pt2) pos) (tS G W (sPar i j f)) := PS.imp (ps_par hc hN hi hj hij hx hy ha hw hs) fun D σ H ⟨ρ, as, st, re, rs, hp⟩ =>
  ⟨ρ, as, st, re, rs, (PostS.bind hp).mono fun x H1 ⟨d, as1, st1, _, g1, rs1, ra, hp1⟩ => by
    cases ra with
    | nil => exact hp1.elim
    | cons r1 ra =>
      cases ra with
      | nil => exact hp1.elim
      | cons r2 ra =>
        cases ra with
        | nil => exact ⟨_, _, rfl, hp1 as1 _ H1 (Gr.refl _ _) rs1 (((re.gr g1).set r1 i).set r2 j)⟩
        | cons r3 ra => exact hp1.elim⟩
theorem sp_par3 {i j l : Nat} {x y z : Str} {px py pz pt : Pos} {kt k2 : Nat} {pt2 : Pos} (hc : X.calm = true) (hN : X.N.Nodup) (hi : X.N[i]? = some x) (hj : X.N[j]? = some y) (hl : X.N[l]? = some z) (hij : i ≠ j) (hil : i ≠ l) (hjl : j ≠ l)
    (hx : X.env.scope.names.lookup x = some .local) (hy : X.env.scope.names.lookup y = some .local) (hz : X.env.scope.names.lookup z = some .local) (ha : PA X [a, b, c] (tA G W f))
    (hw : swappedStores [.Tuple [.Name x px, .Name y py, .Name z pz] kt pt] (.Tuple [a, b, c] k2 pt2) X.env = pure (some [x, y, z]))
    (hs : swapsWithSole [.Tuple [.Name x px, .Name y py, .Name z pz] kt pt] (.Tuple [a, b, c] k2 pt2) pos.line X.env = pure false := by rfl) :
    PS X (.Assign [.Tuple [.Name x px, .Name y py, .Name z pz] kt pt] (.Tuple [a, b, c] k2 pt2) pos) (tS G W (sPar3 i j l f)) := PS.imp (ps_par3 hc hN hi hj hl hij hil hjl hx hy hz ha hw hs) fun D σ H ⟨ρ, as, st, re, rs, hp⟩ =>
  ⟨ρ, as, st, re, rs, (PostS.bind hp).mono fun x H1 ⟨d, as1, st1, _, g1, rs1, ra, hp1⟩ => by
    cases ra with
    | nil => exact hp1.elim
    | cons r1 ra =>
      cases ra with
      | nil => exact hp1.elim
      | cons r2 ra =>
        cases ra with
        | nil => exact hp1.elim
        | cons r3 ra =>
          cases ra with
          | nil => exact ⟨_, _, _, rfl, hp1 as1 _ H1 (Gr.refl _ _) rs1 ((((re.gr g1).set r1 i).set r2 j).set r3 l)⟩
          | cons r4 ra => exact hp1.elim⟩
end
end Zp

set_option Elab.async false
set_option linter.all false
set_option autoImplicit false
set_option maxRecDepth 100000
set_option maxHeartbeats 4000000
namespace Zp
open PySem PySem.Spec PyProof.Rows L2
/-! ### a def by its body -/
def startE (N : Nat) (ds : List DC) : Ev := ds.map some ++ List.replicate (N - ds.length) none
/-- a result leaves the def: what was made is let go, a list that it made is changed no more -/
def retD (n : Nat) (d : D) : Mo D := fun st' => match d with
  | .ref k => if k < n then .ok (.ref k) (st'.take n) else match st'[k]? with
    | some (.lst l) => .ok (.dat (.list l)) (st'.take n)
    | _ => .bad
  | .dat x => .ok (.dat x) (st'.take n)
  | d => if low n d = true then .ok d (st'.take n) else .bad
/-- .. it may be changed still -/
def retK (n : Nat) (d : D) : Mo D := fun st' => match d with
  | .ref k => if k < n then .ok (.ref k) (st'.take n) else match st'[k]? with
    | some c => .ok (.ref n) (st'.take n ++ [c])
    | _ => .bad
  | .dat x => .ok (.dat x) (st'.take n)
  | _ => .bad
def fnWith (r : Nat → D → Mo D) (N : Nat) (b : Cs) : List DC → Mo D := fun ds st => match b (startE N ds) st with
  | .ok (.rt d) st' => r st.length d st'
  | .ok (.nx _) st' => r st.length (.dat .none) st'
  | .exc e st' => .exc e (st'.take st.length)
  | _ => .bad
abbrev fnOf := fnWith retD
abbrev fnKeep := fnWith retK
section
variable {G : Gx} {as as' : As} {st st' : List Cell} {H H' : Hp}
theorem cut_less (h0 : Rs G as st H) (g : Gr H as H' as') : ∀ b, as.bad b → as'.bad b := g.bad
theorem RV.cutAt (h0 : Rs G as st H) (h : Rs G as' st' H') (g : Gr H as H' as') {d : D} {v : V} (r : RV G H' as' d v) (l : low st.length d = true) : RV G H' as d v := by
  have q := RV.cut r l
  refine RV.less ?_ (fun b z => ?_) q
  · exact (h0.cut h g).2.2.symm
  · rcases z with z | z
    · exact .inl (by show b ∈ as'.m.take st.length; rw [(h0.cut h g).2.2]; exact z)
    · exact .inr (g.hid.subset z)
theorem cell_frz (h0 : Rs G as st H) (h : Rs G as' st' H') (g : Gr H as H' as') {k : Nat} {a : Addr} (hk : ¬ k < st.length) (ea : as'.m[k]? = some a) : ¬ as.bad a := fun z => by
  rcases z with z | z
  · obtain ⟨j, hj⟩ := List.mem_iff_getElem?.mp z
    have h1 := g.get hj
    have h2 := (List.getElem?_eq_some_iff.mp h1)
    have h3 := (List.getElem?_eq_some_iff.mp ea)
    have e : j = k := (List.getElem_inj h.nd).mp (h2.2.trans h3.2.symm)
    have := (List.getElem?_eq_some_iff.mp hj).1
    rw [h0.len] at this
    omega
  · exact (h.hd a (g.hid.subset z)).1 (List.mem_of_getElem? ea)
/-- a def's result -/
def RetOk (r : Nat → D → Mo D) : Prop := ∀ (G : Gx) (as as' : As) (st st' : List Cell) (H H' : Hp) (d : D) (v : V) (E : XK) (Q : VK), Rs G as st H → Rs G as' st' H' → Gr H as H' as' → RV G H' as' d v → Post G (RV G) H as E Q (r st.length d st') → Q v H'
theorem retD_ok : RetOk retD := by
  intro G as as' st st' H H' d v E Q h0 h g r hp
  obtain ⟨rs1, g1, e1⟩ := h0.cut h g
  have ls := cut_less h0 g
  have gen : low st.length d = true → Post G (RV G) H as E Q (.ok d (st'.take st.length)) → Q v H' := fun l hp => hp as v H' g1 rs1 (RV.cutAt h0 h g r l)
  unfold retD at hp
  cases d with
  | dat x => exact gen rfl hp
  | ref k =>
    have hp : Post G (RV G) H as E Q (if k < st.length then .ok (.ref k) (st'.take st.length) else match st'[k]? with
      | some (.lst l) => .ok (.dat (.list l)) (st'.take st.length)
      | _ => .bad) := hp
    by_cases hk : k < st.length
    · rw [if_pos hk] at hp
      exact gen (by rw [low, decide_eq_true_iff]; exact hk) hp
    · rw [if_neg hk] at hp
      cases r with
      | ref ea =>
      cases e : st'[k]? with
      | none => rw [e] at hp; exact hp.elim
      | some c =>
        rw [e] at hp
        cases c with
        | lst l =>
          obtain ⟨vs, h1, h2⟩ := h.cell _ _ _ ea e
          exact hp as _ H' g1 rs1 (.dat (.lst ⟨cell_frz h0 h g hk ea, .inl h1⟩ (h2.less ls)))
        | dic l => exact hp.elim
        | obj c fs => exact hp.elim
  | obj c fs =>
    have hp : Post G (RV G) H as E Q (if low st.length (.obj c fs) = true then .ok (.obj c fs) (st'.take st.length) else .bad) := hp
    by_cases l : low st.length (.obj c fs) = true
    · rw [if_pos l] at hp; exact gen l hp
    · rw [if_neg l] at hp; exact hp.elim
  | tup fs =>
    have hp : Post G (RV G) H as E Q (if low st.length (.tup fs) = true then .ok (.tup fs) (st'.take st.length) else .bad) := hp
    by_cases l : low st.length (.tup fs) = true
    · rw [if_pos l] at hp; exact gen l hp
    · rw [if_neg l] at hp; exact hp.elim
  | lst fs =>
    have hp : Post G (RV G) H as E Q (if low st.length (.lst fs) = true then .ok (.lst fs) (st'.take st.length) else .bad) := hp
    by_cases l : low st.length (.lst fs) = true
    · rw [if_pos l] at hp; exact gen l hp
    · rw [if_neg l] at hp; exact hp.elim
theorem retK_ok : RetOk retK := by
  intro G as as' st st' H H' d v E Q h0 h g r hp
  obtain ⟨rs1, g1, e1⟩ := h0.cut h g
  have ls := cut_less h0 g
  have gen : low st.length d = true → Post G (RV G) H as E Q (.ok d (st'.take st.length)) → Q v H' := fun l hp => hp as v H' g1 rs1 (RV.cutAt h0 h g r l)
  unfold retK at hp
  cases d with
  | dat x => exact gen rfl hp
  | ref k =>
    have hp : Post G (RV G) H as E Q (if k < st.length then .ok (.ref k) (st'.take st.length) else match st'[k]? with
      | some c => .ok (.ref st.length) (st'.take st.length ++ [c])
      | _ => .bad) := hp
    by_cases hk : k < st.length
    · rw [if_pos hk] at hp
      exact gen (by rw [low, decide_eq_true_iff]; exact hk) hp
    · rw [if_neg hk] at hp
      cases r with
      | @ref _ a ea =>
      cases e : st'[k]? with
      | none => rw [e] at hp; exact hp.elim
      | some c =>
        rw [e] at hp
        have nb := cell_frz h0 h g hk ea
        have am : a ∈ as'.m := List.mem_of_getElem? ea
        have ls2 : ∀ b, (as.add a).bad b → as'.bad b := fun b z => by
          rcases z with z | z
          · rcases List.mem_append.mp z with z | z
            · exact ls b (.inl z)
            · rw [List.mem_singleton.mp z]; exact .inl am
          · exact ls b (.inr z)
        have hc := (h.cell _ _ _ ea e).less ls2
        refine hp (as.add a) (.ref a) H' ⟨⟨g.fix, fun b o h1 h2 h3 => ⟨(g.keep b o h1 h2 h3).1, fun z => ?_⟩, List.prefix_append _ _⟩, List.suffix_refl _, g.held⟩ ⟨?_, ?_, fun m b d e1 e2 => ?_, h.tabs, fun b hb => ⟨fun z => ?_, (rs1.hd b hb).2⟩⟩ (.ref ?_)
        · have := (g.keep b o h1 h2 h3).2
          exact this (ls2 b z)
        · exact List.nodup_append.mpr ⟨h0.nd, by simp, fun x hx y hy z => nb (.inl (by rw [List.mem_singleton] at hy; rw [← hy, ← z]; exact hx))⟩
        · show (as.m ++ [a]).length = _
          have := rs1.len
          simp only [List.length_append, List.length_singleton]
          omega
        · have e1 : (as.m ++ [a])[m]? = some b := e1
          have l2 := rs1.len
          by_cases hm : m < as.m.length
          · rw [List.getElem?_append_left hm] at e1
            rw [List.getElem?_append_left (by rw [← l2]; exact hm)] at e2
            have l3 : m < st.length := by rw [← h0.len]; exact hm
            rw [List.getElem?_take_of_lt l3] at e2
            exact (h.cell m b d (g.get e1) e2).less ls2
          · rw [List.getElem?_append_right (by omega)] at e1
            rw [List.getElem?_append_right (by rw [← l2]; omega), ← l2] at e2
            have e0 : m - as.m.length = 0 := by
              have := (List.getElem?_eq_some_iff.mp e1).1
              simp at this; omega
            rw [e0] at e1 e2
            simp at e1 e2
            subst e1; subst e2
            exact hc
        · rcases List.mem_append.mp z with z | z
          · exact (h0.hd b hb).1 z
          · rw [List.mem_singleton] at z
            exact nb (.inr (z ▸ hb))
        · show (as.m ++ [a])[st.length]? = some a
          rw [← h0.len]; simp
  | _ => exact hp.elim
end
theorem start_re {G : Gz} {H : Hp} {as : As} {N : List Str} {ds : List DC} {vs : List V} (h : RCs G H as ds vs) (hl : ds.length ≤ N.length) : RE G H as (startE N.length ds) (L2.start N vs) := by
  have e := Paired.length h
  refine ⟨?_, fun i d q => ?_⟩
  · unfold startE L2.start
    simp only [List.length_append, List.length_map, List.length_replicate]
    omega
  · unfold startE at q
    by_cases hi : i < ds.length
    · rw [List.getElem?_append_left (by simpa using hi), List.getElem?_map] at q
      cases e1 : ds[i]? with
      | none => rw [e1] at q; cases q
      | some d' =>
        rw [e1] at q; cases q
        have : ∃ v, vs[i]? = some v ∧ RC G H as d v := by
          clear hl e hi
          induction h generalizing i with
          | nil => simp at e1
          | cons a b ih =>
            cases i with
            | zero => simp at e1; subst e1; exact ⟨_, rfl, a⟩
            | succ i => exact ih i (by simpa using e1)
        obtain ⟨v, e2, r⟩ := this
        refine ⟨v, ?_, r⟩
        unfold L2.start
        rw [List.getElem?_append_left (by rw [List.length_map, ← e]; exact hi), List.getElem?_map, e2]
        rfl
    · rw [List.getElem?_append_right (by simpa using Nat.le_of_not_lt hi), List.getElem?_replicate] at q
      split at q <;> cases q
/-- THE RULE for a def -/
theorem fn_ok {G : Gz} {x qual : Str} {st : Stmt} {f : Addr} {fd : FuncData} {N ps : List Str} {k n : Nat} {r : Nat → D → Mo D} {b : Cs} (F : Fun G.K x qual st f fd) (S : FnScope N ps (defScope st)) (hn : n = ps.length) (hN : n ≤ N.length) (hr : RetOk r)
    (hb : ∀ (cdv : Value) (A : Around) (outer : List Env) (s : Shared) (H : Hp) (E : XK), Cz G (cxOf (L2.CX G.P G.w) G.P G.w G.K G.mg G.base N qual (defScope st) f cdv A outer s H E) (fun c d _ H' => E c d H') k →
      PSs (cxOf (L2.CX G.P G.w) G.P G.w G.K G.mg G.base N qual (defScope st) f cdv A outer s H E) (defBody st) (tS G (fun c d _ H' => E c d H') b)) :
    FnOk G.P G.w G.K G.mg G.base (L2.CX G.P G.w) (k + 1) f fd ps (spOf G n (fnWith r N.length b)) := by
  refine F.okX S (spOf_len hn) fun cdv A outer s H vs Q E room ⟨ds, as, st0, hl, ra, rs, hp⟩ => ?_
  refine ⟨_, hb cdv A outer s H E ⟨⟨rfl, rfl, rfl, rfl⟩, takes_of rfl rfl rfl rfl, rfl, room, passes_of rfl⟩, ?_⟩
  refine ⟨startE N.length ds, as, st0, start_re ra (by rw [hl]; exact hN), rs, ?_⟩
  unfold fnWith at hp
  cases e : b (startE N.length ds) st0 with
  | ok fl st' =>
    rw [e] at hp
    cases fl with
    | rt d => exact fun as' v H' g r' q => hr G as as' st0 st' H H' d v E Q rs r' g q hp
    | nx ρ => exact fun as' σ' H' g r' q => hr G as as' st0 st' H H' (.dat .none) .non E Q rs r' g (.dat .non) hp
    | bk ρ => exact hp.elim
    | ct ρ => exact hp.elim
  | exc x st' =>
    rw [e] at hp
    intro as' cls dd σ' H' g r' q
    obtain ⟨rs1, g1, e1⟩ := rs.cut r' g
    exact hp as cls dd H' g1 rs1 (q.less (cut_less rs g))
  | bad => rw [e] at hp; exact hp.elim
end Zp

set_option Elab.async false
set_option linter.all false
set_option autoImplicit false
set_option maxRecDepth 100000
set_option maxHeartbeats 4000000
namespace Zp
open PySem PySem.Spec PyProof.Rows L2
/-! ### what a loop walks -/
/-- its items, or the changeable list that it walks as it stands at each turn -/
inductive Src where
  | items (l : List D)
  | cell (n : Nat)
structure Walks (G : Gx) (H : Hp) (as : As) (items : List D) (J : It) : Prop where
  go : ∀ (as2 : As) (st2 : List Cell) (H2 : Hp) (i : Nat) (x : D), Gk H as H2 as2 → Rs G as2 st2 H2 → items[i]? = some x →
    J.go i H2 ∧ ∀ v H3, J.yld i H2 v H3 → Gr H2 as2 H3 as2 ∧ Rs G as2 st2 H3 ∧ RV G H3 as2 x v
  stop : ∀ (as2 : As) (st2 : List Cell) (H2 : Hp), Gk H as H2 as2 → Rs G as2 st2 H2 → J.stop items.length H2
def SrcOk (G : Gx) (H : Hp) (as : As) : Src → It → Prop
  | .items l, J => Walks G H as l J
  | .cell n, J => ∃ a, as.m[n]? = some a ∧ J = Itl G.K a
def tI (G : Gz) (W : WX) (f : Ev → Mo Src) : TI := fun σ H R => ∃ ρ as st, RE G H as ρ σ ∧ Rs G as st H ∧ Post G (SrcOk G) H as (fun c d H' => W c d σ H') R (f ρ st)
theorem PI.imp {X : Cx} {tg e : Expr} {t t' : TI} (h : PI X tg e t) (k : ∀ σ H R, t' σ H R → t σ H R) : PI X tg e t' := ⟨fun pins s σ H R I q => h.run pins s σ H R I (k σ H R q)⟩
theorem walks_list {G : Gx} {H : Hp} {as : As} {a : Addr} {xs : List V} {l : List D} (h : SL G.K H as a xs) (q : RVs G H as l xs) : Walks G H as l (Itl G.K a) where
  go := fun as2 st2 H2 i x g rs e => by
    obtain ⟨v, e1, r⟩ := q.get e
    have hs := (h.gk g).sq (K := G.K)
    refine ⟨⟨xs, v, hs, e1⟩, fun y H3 ⟨e3, hy⟩ => ?_⟩
    subst e3
    have := hy xs hs
    rw [e1] at this; cases this
    exact ⟨Gr.refl _ _, rs, r.gk g⟩
  stop := fun as2 st2 H2 g rs => ⟨xs, (h.gk g).sq, by rw [q.length]; exact Nat.le_refl _⟩
theorem walks_tup {G : Gx} {H : Hp} {as : As} {a : Addr} {xs : List V} {l : List D} (h : ST G.K H as a xs) (q : RVs G H as l xs) : Walks G H as l (Itt G.K a) where
  go := fun as2 st2 H2 i x g rs e => by
    obtain ⟨v, e1, r⟩ := q.get e
    have hs := (h.gk g).sq
    refine ⟨⟨xs, v, hs, e1⟩, fun y H3 ⟨e3, hy⟩ => ?_⟩
    subst e3
    have := hy xs hs
    rw [e1] at this; cases this
    exact ⟨Gr.refl _ _, rs, r.gk g⟩
  stop := fun as2 st2 H2 g rs => ⟨xs, (h.gk g).sq, by rw [q.length]; exact Nat.le_refl _⟩
def rangeL (lo : Int) (n : Nat) : List D := (List.range n).map fun (i : Nat) => .dat (.int (lo + (i : Int)))
theorem walks_range {G : Gx} {H : Hp} {as : As} {lo : Int} {n : Nat} : Walks G H as (rangeL lo n) (Itr lo n) where
  go := fun as2 st2 H2 i x g rs e => by
    unfold rangeL at e
    rw [List.getElem?_map] at e
    by_cases hi : i < n
    · rw [List.getElem?_range hi] at e
      cases e
      exact ⟨hi, fun y H3 ⟨e3, hy⟩ => by subst e3 hy; exact ⟨Gr.refl _ _, rs, .dat (.int _)⟩⟩
    · rw [List.getElem?_eq_none (by simpa using Nat.le_of_not_lt hi)] at e; cases e
  stop := fun as2 st2 H2 g rs => by show n ≤ _; unfold rangeL; simp

/-- a list or tuple is walked -/
def iSeq (f : Ev → Mo D) (ρ : Ev) : Mo Src := fun st => (f ρ st).bind fun d st1 => match d with
  | .ref n => match st1[n]? with
    | some (.lst _) => .ok (.cell n) st1
    | _ => .bad
  | .dat (.list l) => .ok (.items (l.map .dat)) st1
  | .lst l => .ok (.items l) st1
  | _ => .bad
def iTupl (f : Ev → Mo D) (ρ : Ev) : Mo Src := fun st => (f ρ st).bind fun d st1 => match d with
  | .dat (.tuple l) => .ok (.items (l.map .dat)) st1
  | .tup l => .ok (.items l) st1
  | _ => .bad
def iRg1 (f : Ev → Mo (List D)) (ρ : Ev) : Mo Src := fun st => (f ρ st).bind fun ds st1 => match ds with
  | [.dat (.int j)] => if -(2 ^ 62) ≤ j ∧ j < 2 ^ 62 then .ok (.items (rangeL 0 j.toNat)) st1 else .bad
  | _ => .bad
def iRg2 (f : Ev → Mo (List D)) (ρ : Ev) : Mo Src := fun st => (f ρ st).bind fun ds st1 => match ds with
  | [.dat (.int i), .dat (.int j)] => if (-(2 ^ 62) ≤ i ∧ i < 2 ^ 62) ∧ (-(2 ^ 62) ≤ j ∧ j < 2 ^ 62) then .ok (.items (rangeL i (j - i).toNat)) st1 else .bad
  | _ => .bad
section
variable {G : Gz} {X : Cx} {W : WX} {tg e e2 : Expr} {f : Ev → Mo D} {fs : Ev → Mo (List D)} {p pos : Pos}
theorem si_list (F : Fits G X) (h : PE X e (tE G W f)) : PI X tg e (tI G W (iSeq f)) := by
  have eK := F.K
  refine PI.imp (pi_list h) ?_
  rw [eK]
  intro σ H R ⟨ρ, as, st, re, rs, hp⟩
  refine ⟨ρ, as, st, re, rs, (Post.bind hp).mono fun x H1 ⟨d, as1, st1, _, g1, rs1, ra, hp1⟩ => ?_⟩
  cases ra with
  | dat q =>
    cases q with
    | lst h1 h2 => exact ⟨_, rfl, ⟨_, h1.sq⟩, hp1 as1 _ H1 (Gr.refl _ _) rs1 (walks_list h1.sl (RVs.of_dq h2))⟩
    | _ => exact hp1.elim
  | lst h1 h2 => exact ⟨_, rfl, ⟨_, h1.sq⟩, hp1 as1 _ H1 (Gr.refl _ _) rs1 (walks_list h1 h2)⟩
  | @ref n a ea =>
    have hp1 : Post G (SrcOk G) H1 as1 (fun c d H' => W c d σ H') R (match st1[n]? with
      | some (.lst _) => .ok (.cell n) st1
      | _ => .bad) := hp1
    cases e1 : st1[n]? with
    | none => rw [e1] at hp1; exact hp1.elim
    | some c =>
      rw [e1] at hp1
      cases c with
      | lst l =>
        obtain ⟨vs, h1, h2⟩ := rs1.cell _ _ _ ea e1
        exact ⟨a, rfl, ⟨vs, .inl (.inl h1)⟩, hp1 as1 _ H1 (Gr.refl _ _) rs1 ⟨a, ea, rfl⟩⟩
      | dic l => exact hp1.elim
      | obj c fs => exact hp1.elim
  | obj _ _ _ _ _ _ => exact hp1.elim
  | tup _ _ => exact hp1.elim
theorem si_tup (F : Fits G X) (h : PE X e (tE G W f)) : PI X tg e (tI G W (iTupl f)) := by
  have eK := F.K
  refine PI.imp (pi_tup h) ?_
  rw [eK]
  intro σ H R ⟨ρ, as, st, re, rs, hp⟩
  refine ⟨ρ, as, st, re, rs, (Post.bind hp).mono fun x H1 ⟨d, as1, st1, _, g1, rs1, ra, hp1⟩ => ?_⟩
  cases ra with
  | dat q =>
    cases q with
    | tup h1 h2 => exact ⟨_, rfl, ⟨_, h1.sq⟩, hp1 as1 _ H1 (Gr.refl _ _) rs1 (walks_tup h1 (RVs.of_dq h2))⟩
    | _ => exact hp1.elim
  | tup h1 h2 => exact ⟨_, rfl, ⟨_, h1.sq⟩, hp1 as1 _ H1 (Gr.refl _ _) rs1 (walks_tup h1 h2)⟩
  | ref _ => exact hp1.elim
  | obj _ _ _ _ _ _ => exact hp1.elim
  | lst _ _ => exact hp1.elim
theorem si_range1 (hg : Gl X "range") (hm : X.mg "range" = none) (ha : PA X [e] (tA G W fs)) (hs : starEach [e] X.env = [(false, eval e X.env)] := by rfl) : PI X tg (.Call (.Name "range" p) [e] [] pos) (tI G W (iRg1 fs)) :=
  PI.imp (pi_range1 hg hm ha hs) fun σ H R ⟨ρ, as, st, re, rs, hp⟩ => ⟨ρ, as, st, re, rs, (Post.bind hp).mono fun xs H1 ⟨ds, as1, st1, e0, g1, rs1, ra, hp1⟩ => by
    clear e0
    split at hp1
    · rename_i j
      split at hp1
      · rename_i hj
        cases ra with
        | cons r rr =>
        cases rr
        cases r with
        | dat r => cases r with
          | int => exact ⟨j, rfl, hj.1, hj.2, hp1 as1 _ H1 (Gr.refl _ _) rs1 walks_range⟩
      · exact hp1.elim
    · exact hp1.elim⟩
theorem si_range2 (hg : Gl X "range") (hm : X.mg "range" = none) (ha : PA X [e, e2] (tA G W fs)) (hs : starEach [e, e2] X.env = [(false, eval e X.env), (false, eval e2 X.env)] := by rfl) (hs2 : starEach [e2] X.env = [(false, eval e2 X.env)] := by rfl) :
    PI X tg (.Call (.Name "range" p) [e, e2] [] pos) (tI G W (iRg2 fs)) :=
  PI.imp (pi_range2 hg hm ha hs hs2) fun σ H R ⟨ρ, as, st, re, rs, hp⟩ => ⟨ρ, as, st, re, rs, (Post.bind hp).mono fun xs H1 ⟨ds, as1, st1, e0, g1, rs1, ra, hp1⟩ => by
    clear e0
    split at hp1
    · rename_i i j
      split at hp1
      · rename_i hj
        cases ra with
        | cons r rr =>
        cases rr with
        | cons r2 rr =>
        cases rr
        cases r with
        | dat r => cases r with
          | int =>
            cases r2 with
            | dat r2 => cases r2 with
              | int => exact ⟨i, j, rfl, ⟨hj.1.1, hj.1.2, hj.2.1, hj.2.2⟩, hp1 as1 _ H1 (Gr.refl _ _) rs1 walks_range⟩
      · exact hp1.elim
    · exact hp1.elim⟩
end

/-! ### for -/
def endFl (fl : Fl) (k : Ev → Mo Fl) : Mo Fl := fun st => match fl with
  | .nx ρ => k ρ st
  | .ct ρ => k ρ st
  | .bk ρ => .ok (.nx ρ) st
  | .rt d => .ok (.rt d) st
def forL (t : Tg) (b : Cs) : List D → Cs
  | [] => sNx
  | x :: xs => fun ρ st => (t x ρ st).bind fun ρ1 st1 => (b ρ1 st1).bind fun fl st2 => endFl fl (forL t b xs) st2
def forR (n : Nat) (t : Tg) (b : Cs) : Nat → Nat → Cs
  | 0, _ => sNo
  | fuel + 1, i => fun ρ st => match st[n]? with
    | some (.lst l) => match l[i]? with
      | none => .ok (.nx ρ) st
      | some x => (t (.dat x) ρ st).bind fun ρ1 st1 => (b ρ1 st1).bind fun fl st2 => endFl fl (forR n t b fuel (i + 1)) st2
    | _ => .bad
def sFor (fi : Ev → Mo Src) (t : Tg) (b : Cs) : Cs := fun ρ st => (fi ρ st).bind fun s st1 => match s with
  | .items l => forL t b l ρ st1
  | .cell n => forR n t b 100000 0 ρ st1
/-- the part that a target plays -/
theorem PostS.bindG {G : Gz} {H : Hp} {as : As} {W : WX} {D : Ends} {o : Out Ev} {k : Ev → Mo Fl} (h : PostS G H as W D (o.bind k)) :
    Post G (RE G) H as (fun c d H' => ∀ σ', W c d σ' H') (fun σ' H1 => ∃ ρ as1 st1, o = .ok ρ st1 ∧ Gr H as H1 as1 ∧ Rs G as1 st1 H1 ∧ RE G H1 as1 ρ σ' ∧ PostS G H1 as1 W D (k ρ st1)) o := by
  cases o with
  | ok d st => exact fun as' v H' g r q => ⟨d, as', st, rfl, g, r, q, PostS.gr g h⟩
  | exc e st => exact fun as' c d H' g r q σ' => h as' c d σ' H' g r q
  | bad => exact h
/-- a turn's body, by the loop's own end -/
theorem turn_imp {G : Gz} {W : WX} {b : Cs} {D : Ends} {N : L2.St → Hp → Prop} {k : Ev → Mo Fl} {ρ : Ev} {σ : L2.St} {as : As} {st : List Cell} {H : Hp} (re : RE G H as ρ σ) (rs : Rs G as st H)
    (hp : PostS G H as W D ((b ρ st).bind fun fl st2 => endFl fl k st2)) (hN : ∀ (as' : As) (st' : List Cell) (ρ' : Ev) (σ' : L2.St) (H' : Hp), Gr H as H' as' → Rs G as' st' H' → RE G H' as' ρ' σ' → PostS G H' as' W D (k ρ' st') → N σ' H') :
    tS G W b { D with nx := N, ct := N, bk := D.nx } σ H := by
  refine ⟨ρ, as, st, re, rs, ?_⟩
  cases e : b ρ st with
  | ok fl st2 =>
    rw [e] at hp
    cases fl with
    | nx ρ2 => exact fun as' σ' H' g r q => hN as' st2 ρ2 σ' H' g r q (PostS.gr g hp)
    | ct ρ2 => exact fun as' σ' H' g r q => hN as' st2 ρ2 σ' H' g r q (PostS.gr g hp)
    | bk ρ2 => exact hp
    | rt d => exact hp
  | exc x s => rw [e] at hp; exact hp
  | bad => rw [e] at hp; exact hp
section
variable {G : Gz} {X : Cx} {W : WX} {k : Nat} {tg e : Expr} {fi : Ev → Mo Src} {t : Tg} {b : Cs} {body : List Stmt} {pos : Pos}
theorem for_imp (D : Ends) (σ : L2.St) (H : Hp) (h : tS G W (sFor fi t b) D σ H) : tFor (tI G W fi) (tG G W t) (tS G W b) D σ H := by
  obtain ⟨ρ, as, st, re, rs, hp⟩ := h
  refine ⟨ρ, as, st, re, rs, (PostS.bind hp).mono fun J H1 ⟨s, as1, st1, _, g1, rs1, ra, hp1⟩ => ?_⟩
  cases s with
  | items l =>
    refine ⟨fun i m σ H => m = l.length - i ∧ i ≤ l.length ∧ ∃ ρ as st, Gr H1 as1 H as ∧ RE G H as ρ σ ∧ Rs G as st H ∧ PostS G H as W D (forL t b (l.drop i) ρ st), ⟨_, rfl, Nat.zero_le _, ρ, as1, st1, Gr.refl _ _, re.gr g1, rs1, hp1⟩, ?_⟩
    rintro i m σ2 H2 ⟨rfl, hi, ρ2, as2, st2, g2, re2, rs2, hp2⟩
    by_cases hl : i < l.length
    · have e1 : l.drop i = l[i] :: l.drop (i + 1) := List.drop_eq_getElem_cons hl
      rw [e1] at hp2
      obtain ⟨w1, w2⟩ := ra.go as2 st2 H2 i l[i] g2.toGk rs2 (List.getElem?_eq_getElem hl)
      refine .inr ⟨w1, _, fun σ' H' q => ⟨l.length - (i + 1), by omega, q⟩, fun v H3 y => ?_⟩
      obtain ⟨g3, rs3, rx⟩ := w2 v H3 y
      exact ⟨ρ2, l[i], as2, st2, re2.gr g3, rx, rs3, (PostS.bindG (PostS.gr g3 hp2)).mono fun σ4 H4 ⟨ρ4, as4, st4, _, g4, rs4, re4, hp4⟩ =>
        turn_imp re4 rs4 hp4 fun as' st' ρ' σ' H' g r q z => ⟨rfl, hl, ρ', as', st', ((g2.trans g3).trans g4).trans g, q, r, z⟩⟩
    · have e0 : i = l.length := by omega
      subst e0
      rw [List.drop_length] at hp2
      exact .inl ⟨ra.stop as2 st2 H2 g2.toGk rs2, hp2 as2 σ2 H2 (Gr.refl _ _) rs2 re2⟩
  | cell n =>
    obtain ⟨a, ea, rfl⟩ := ra
    refine ⟨fun i m σ H => ∃ ρ as st, Gr H1 as1 H as ∧ RE G H as ρ σ ∧ Rs G as st H ∧ PostS G H as W D (forR n t b m i ρ st), ⟨_, ρ, as1, st1, Gr.refl _ _, re.gr g1, rs1, hp1⟩, ?_⟩
    rintro i m σ2 H2 ⟨ρ2, as2, st2, g2, re2, rs2, hp2⟩
    cases m with
    | zero => exact hp2.elim
    | succ m =>
      have hp2 : PostS G H2 as2 W D (match st2[n]? with
        | some (.lst l) => match l[i]? with
          | none => .ok (.nx ρ2) st2
          | some x => (t (.dat x) ρ2 st2).bind fun ρ1 st1 => (b ρ1 st1).bind fun fl st2 => endFl fl (forR n t b m (i + 1)) st2
        | _ => .bad) := hp2
      cases ec : st2[n]? with
      | none => rw [ec] at hp2; exact hp2.elim
      | some c =>
        rw [ec] at hp2
        cases c with
        | dic l => exact hp2.elim
        | obj c fs => exact hp2.elim
        | lst l =>
          obtain ⟨vs, h1, h2⟩ := rs2.cell _ _ _ (g2.get ea) ec
          have hq : SqL G.K H2 a vs := .inl (.inl h1)
          have hp2 : PostS G H2 as2 W D (match l[i]? with
            | none => .ok (.nx ρ2) st2
            | some x => (t (.dat x) ρ2 st2).bind fun ρ1 st1 => (b ρ1 st1).bind fun fl st2 => endFl fl (forR n t b m (i + 1)) st2) := hp2
          cases ei : l[i]? with
          | none =>
            rw [ei] at hp2
            exact .inl ⟨⟨vs, hq, by rw [h2.length]; exact List.getElem?_eq_none_iff.mp ei⟩, hp2 as2 σ2 H2 (Gr.refl _ _) rs2 re2⟩
          | some x =>
            rw [ei] at hp2
            obtain ⟨y, ey, ry⟩ := h2.get ei
            refine .inr ⟨⟨vs, y, hq, ey⟩, _, fun σ' H' q => ⟨m, Nat.lt_succ_self _, q⟩, fun v H3 ⟨e3, hy⟩ => ?_⟩
            subst e3
            have := hy vs hq
            rw [ey] at this; cases this
            exact ⟨ρ2, .dat x, as2, st2, re2, .dat ry, rs2, (PostS.bindG hp2).mono fun σ4 H4 ⟨ρ4, as4, st4, _, g4, rs4, re4, hp4⟩ =>
              turn_imp re4 rs4 hp4 fun as' st' ρ' σ' H' g r q z => ⟨ρ', as', st', (g2.trans g4).trans g, q, r, z⟩⟩
theorem sp_for (C : Cz G X W k) (hi : PI X tg e (tI G W fi)) (hg : PG X tg (tG G W t)) (hb : PSs X body (tS G W b)) (hs : ∀ x, foldedSetIterable e X.env x = pure x := by intro _; rfl) : PS X (.For tg e body [] pos) (tS G W (sFor fi t b)) :=
  PS.imp (ps_for C.own C.calm hi hg hb hs) for_imp
end

/-! ### while -/
def whileN (c : Ev → Mo Bool) (b : Cs) : Nat → Cs
  | 0 => sNo
  | n + 1 => fun ρ st => (c ρ st).bind fun k st1 => if k = true then (b ρ st1).bind fun fl st2 => endFl fl (whileN c b n) st2 else .ok (.nx ρ) st1
/-- as many turns as are wanted: fuel is the prover's -/
def sWhile (fuel : Nat) (c : Ev → Mo Bool) (b : Cs) : Cs := whileN c b fuel
section
variable {G : Gz} {X : Cx} {W : WX} {k : Nat} {e : Expr} {c : Ev → Mo Bool} {b : Cs} {body : List Stmt} {pos : Pos}
theorem sp_while (C : Cz G X W k) (fuel : Nat) (hc : PT X e (tB G W c)) (hb : PSs X body (tS G W b)) : PS X (.While e body [] pos) (tS G W (sWhile fuel c b)) :=
  PS.imp (ps_while C.own hc hb) fun D σ H ⟨ρ, as, st, re, rs, hp⟩ => by
    refine ⟨fun m σ H => ∃ ρ as st, RE G H as ρ σ ∧ Rs G as st H ∧ PostS G H as W D (whileN c b m ρ st), ⟨fuel, ρ, as, st, re, rs, hp⟩, ?_⟩
    rintro m σ2 H2 ⟨ρ2, as2, st2, re2, rs2, hp2⟩
    cases m with
    | zero => exact hp2.elim
    | succ m =>
      refine ⟨ρ2, as2, st2, re2, rs2, (PostS.bind hp2).mono fun k' H3 ⟨k, as3, st3, _, g3, rs3, ek, hp3⟩ => ?_⟩
      subst ek
      cases k with
      | false => rw [if_neg Bool.false_ne_true] at hp3 ⊢; exact hp3 as3 σ2 H3 (Gr.refl _ _) rs3 (re2.gr g3)
      | true =>
        rw [if_pos rfl] at hp3 ⊢
        exact ⟨_, fun σ' H' q => ⟨m, Nat.lt_succ_self _, q⟩, turn_imp (re2.gr g3) rs3 hp3 fun as' st' ρ' σ' H' g r q z => ⟨ρ', as', st', q, r, z⟩⟩
end
end Zp

set_option Elab.async false
set_option linter.all false
set_option autoImplicit false
set_option maxRecDepth 100000
set_option maxHeartbeats 4000000
namespace Zp
open PySem PySem.Spec PyProof.Rows L2
/-! ### a comprehension's own names -/
theorem wipe_set1 {σ : L2.St} {i : Nat} {x : Option V} : ∀ vs : List Nat, (L2.wipe (σ.set i x) vs).set i none = (L2.wipe σ vs).set i none
  | [] => by unfold L2.wipe; rw [List.set_set]
  | v :: vs => by
    unfold L2.wipe
    by_cases h : v = i
    · subst h; rw [List.set_set, List.set_set]; exact wipe_set1 vs
    · rw [List.set_comm _ _ h, wipe_set1 vs, List.set_comm _ _ (Ne.symm h)]
theorem wipe_set {σ : L2.St} {i : Nat} {x : Option V} : ∀ {vs : List Nat}, i ∈ vs → L2.wipe (σ.set i x) vs = L2.wipe σ vs
  | v :: vs, h => by
    unfold L2.wipe
    by_cases e : v = i
    · subst e; exact wipe_set1 vs
    · rw [wipe_set (vs := vs) (by rcases List.mem_cons.mp h with z | z; exact absurd z.symm e; exact z)]
/-- a target that stores to the own names alone -/
def REw (G : Gz) (vs : List Nat) (σ : L2.St) : Hp → As → Ev → L2.St → Prop := fun H as ρ σ' => RE G H as ρ σ' ∧ L2.wipe σ' vs = L2.wipe σ vs
def tGw (G : Gz) (vs : List Nat) (t : Tg) : TG := fun v σ H Q => ∃ ρ d as st, RE G H as ρ σ ∧ RV G H as d v ∧ Rs G as st H ∧ Post G (REw G vs σ) H as (fun _ _ _ => False) Q (t d ρ st)
def tGsw (G : Gz) (vs : List Nat) (t : Tgs) : TGs := fun v σ H Q => ∃ ρ ds as st, RE G H as ρ σ ∧ RVs G H as ds v ∧ Rs G as st H ∧ Post G (REw G vs σ) H as (fun _ _ _ => False) Q (t ds ρ st)
section
variable {G : Gz} {X : Cx} {vs : List Nat} {pos : Pos} {t : Tg} {u : Tgs} {e : Expr} {es : List Expr}
theorem sw_name {i : Nat} {x : Str} (h : PG X (.Name x pos) (gName i)) (hv : i ∈ vs) : PG X (.Name x pos) (tGw G vs (gN i)) :=
  PG.imp h fun v σ H Q ⟨ρ, d, as, st, re, rd, rs, hp⟩ => hp as _ H (Gr.refl _ _) rs ⟨re.set rd i, wipe_set hv⟩
theorem sws_nil : PGs X [] (tGsw G vs gsNil) := PGs.imp pgs_nil fun v σ H Q ⟨ρ, ds, as, st, re, rd, rs, hp⟩ => by
  cases ds with
  | nil => cases rd; exact ⟨rfl, hp as _ H (Gr.refl _ _) rs ⟨re, rfl⟩⟩
  | cons d r => exact hp.elim
theorem sws_cons (h1 : PG X e (tGw G vs t)) (h2 : PGs X es (tGsw G vs u)) (hs : (assignEach (e :: es) X.env).map (·.2) = assign e X.env :: (assignEach es X.env).map (·.2) := by rfl) : PGs X (e :: es) (tGsw G vs (gsCons t u)) := PGs.imp (pgs_cons h1 h2 hs) fun v σ H Q ⟨ρ, ds, as, st, re, rd, rs, hp⟩ => by
  cases ds with
  | nil => exact hp.elim
  | cons d r =>
    cases rd with
    | cons r1 r2 =>
      refine ⟨_, _, rfl, ρ, d, as, st, re, r1, rs, ?_⟩
      have hp : Post G (REw G vs σ) H as (fun _ _ _ => False) Q ((t d ρ st).bind fun ρ1 st1 => u r ρ1 st1) := hp
      cases e1 : t d ρ st with
      | ok ρ1 st1 =>
        rw [e1] at hp
        exact fun as1 σ1 H1 g1 rs1 ⟨re1, w1⟩ => ⟨ρ1, r, as1, st1, re1, RVs.gr g1 r2, rs1, by
          have hp := Post.gr g1 hp
          have hp : Post G (REw G vs σ) H1 as1 (fun _ _ _ => False) Q (u r ρ1 st1) := hp
          cases e2 : u r ρ1 st1 with
          | ok ρ2 st2 => rw [e2] at hp; exact fun as2 σ2 H2 g2 rs2 ⟨re2, w2⟩ => hp as2 σ2 H2 g2 rs2 ⟨re2, w2.trans w1⟩
          | exc x s => rw [e2] at hp; exact hp
          | bad => rw [e2] at hp; exact hp⟩
      | exc x s => rw [e1] at hp; exact hp
      | bad => rw [e1] at hp; exact hp
theorem sw_tup (F : Fits G X) {n m : Nat} (hc : X.calm = true) (h : PGs X es (tGsw G vs u)) (hn : (assignEach es X.env).length = n := by rfl) (hst : (assignEach es X.env).findIdx? (·.1) = none := by rfl) : PG X (.Tuple es m pos) (tGw G vs (gT n u)) := by
  have eK := F.K
  refine PG.imp (pg_tup hc h hn hst) ?_
  rw [eK]
  intro v σ H Q ⟨ρ, d, as, st, re, rd, rs, hp⟩
  unfold gT at hp
  cases e : tupOf d with
  | none => rw [e] at hp; exact hp.elim
  | some l =>
    rw [e] at hp
    obtain ⟨a, xs, rfl, h1, h2⟩ := tup_ok rd e
    have hp : Post G (REw G vs σ) H as (fun _ _ _ => False) Q (if l.length = n then u l ρ st else .bad) := hp
    by_cases hl : l.length = n
    · rw [if_pos hl] at hp
      exact ⟨a, xs, rfl, h1, by rw [← h2.length]; exact hl, ρ, l, as, st, re, h2, rs, hp⟩
    · rw [if_neg hl] at hp; exact hp.elim
end
/-- no exception is let out -/
def nx {α : Type} : Out α → Out α
  | .exc _ _ => .bad
  | o => o
abbrev W0 : WX := fun _ _ _ _ => False
theorem Cz.blk {G : Gx} {X : Cx} {W : WX} {k : Nat} (C : Cz G X W k) (s : Shared) (H : Hp) (scope : Scope) (cenv : Env) (fp : List Addr) : Cz G (X.blk s H scope cenv fp) W0 k where
  fit := ⟨C.fit.P, C.fit.w, C.fit.K, C.fit.mg⟩
  tk := fun _ _ x => by
    obtain ⟨_, _, _, _, _, _, _, _, _, _, _, _, _, _, _, _, z⟩ := x
    exact z.elim
  calm := C.calm
  room := C.room
  own := fun _ _ h => by exact h.elim
end Zp

set_option Elab.async false
set_option linter.all false
set_option autoImplicit false
set_option maxRecDepth 100000
set_option maxHeartbeats 4000000
namespace Zp
open PySem PySem.Spec PyProof.Rows L2
/-! ### comprehensions -/
/-- what an item adds; all of it -/
def compL (step : D → Mo (List D)) : List D → Mo (List D)
  | [] => ret []
  | x :: xs => fun st => (step x st).bind fun ys st1 => (compL step xs st1).bind fun zs st2 => .ok (ys ++ zs) st2
def compR (n : Nat) (step : D → Mo (List D)) : Nat → Nat → Mo (List D)
  | 0, _ => stuck
  | fuel + 1, i => fun st => match st[n]? with
    | some (.lst l) => match l[i]? with
      | none => .ok [] st
      | some x => (step (.dat x) st).bind fun ys st1 => (compR n step fuel (i + 1) st1).bind fun zs st2 => .ok (ys ++ zs) st2
    | _ => .bad
def compS (s : Src) (step : D → Mo (List D)) : Mo (List D) := match s with
  | .items l => compL step l
  | .cell n => compR n step 100000 0
/-- one clause's turn -/
def step1 (t : Tg) (c : Ev → Mo Bool) (f : Ev → Mo D) (ρ : Ev) : D → Mo (List D) := fun x st => (nx (t x ρ st)).bind fun ρ1 st1 => (nx (c ρ1 st1)).bind fun b st2 =>
  if b = true then (nx (f ρ1 st2)).bind fun y st3 => .ok [y] st3 else .ok [] st2
def step2 (t : Tg) (c : Ev → Mo Bool) (fi : Ev → Mo Src) (vs1 : List Nat) (st1 : Ev → D → Mo (List D)) (ρ : Ev) : D → Mo (List D) := fun x st => (nx (t x ρ st)).bind fun ρ1 s1 => (nx (c ρ1 s1)).bind fun b s2 =>
  if b = true then (nx (fi ρ1 s2)).bind fun src s3 => compS src (st1 (forget ρ1 vs1)) s3 else .ok [] s2
def cYes (_ : Ev) : Mo Bool := ret true
def cComp (fi : Ev → Mo Src) (vs : List Nat) (step : Ev → D → Mo (List D)) (fin : List D → Mo D) (ρ : Ev) : Mo D := fun st => (fi ρ st).bind fun src st1 => (nx (compS src (step (forget ρ vs)) st1)).bind fun ys st2 => if ys.length ≤ lim then fin ys st2 else .bad
def finL (ys : List D) : Mo D := ret (mkLst ys)
def finM (ys : List D) : Mo D := fun st => match datAll ys with
  | some l => .ok (.ref st.length) (st ++ [.lst l])
  | none => .bad
theorem nx_ok {α : Type} {o : Out α} {a : α} {st : List Cell} (h : nx o = .ok a st) : o = .ok a st := by
  cases o with
  | ok b s => exact h
  | exc e s => cases h
  | bad => cases h

/-- the list that is being filled -/
structure Fb (G : Gx) where
  H : Hp
  as : As
  A : Addr
  P : Hp → As → List D → Prop
  mono : ∀ {H H' : Hp} {as as' : As} {acc : List D}, Gk H as H' as' → H' A = H A → P H as acc → P H' as' acc
  Ok : List D → Prop
  okp : ∀ {a b : List D}, Ok (a ++ b) → Ok a
/-- .. as a list -/
abbrev Fb.lst (G : Gx) (H : Hp) (as : As) (A : Addr) : Fb G := ⟨H, as, A, fun H as acc => ∃ vs, H A = some (.lst vs) ∧ RVs G H as acc vs, fun g e ⟨vs, h1, h2⟩ => ⟨vs, e.trans h1, RVs.gk g h2⟩, fun l => l.length ≤ lim, fun h => by rw [List.length_append] at h; omega⟩
structure FI (G : Gx) (B : Fb G) (as : As) (st : List Cell) (H : Hp) (acc : List D) : Prop where
  gk : Gk B.H B.as H as
  suf : (B.A :: B.as.h) <:+ as.h
  held : ∀ b ∈ B.as.h, H b = B.H b
  rs : Rs G as st H
  at_ : B.P H as acc
  ne : ∀ b ∈ B.as.h, b ≠ B.A
theorem FI.gr {G : Gx} {B : Fb G} {as as' : As} {st st' : List Cell} {H H' : Hp} {acc : List D} (h : FI G B as st H acc) (g : Gr H as H' as') (rs : Rs G as' st' H') : FI G B as' st' H' acc where
  gk := h.gk.trans g.toGk
  suf := h.suf.trans g.hid
  held := fun b hb => (g.held b (h.suf.subset (List.mem_cons_of_mem _ hb))).trans (h.held b hb)
  rs := rs
  at_ := B.mono g.toGk (g.held B.A (h.suf.subset List.mem_cons_self)) h.at_
  ne := h.ne
theorem FI.mem {G : Gx} {B : Fb G} {as : As} {st : List Cell} {H : Hp} {acc : List D} (h : FI G B as st H acc) : B.A ∈ as.h := h.suf.subset List.mem_cons_self
/-- one more -/
theorem FI.app {G : Gx} {H0 : Hp} {a0 : As} {A : Addr} {as : As} {st : List Cell} {H : Hp} {acc : List D} {vs : List V} {y : D} {v : V} (h : FI G (Fb.lst G H0 a0 A) as st H acc) (e : H A = some (.lst vs)) (r : RVs G H as acc vs) (q : RV G H as y v) : FI G (Fb.lst G H0 a0 A) as st (upd H A (.lst (vs ++ [v]))) (acc ++ [y]) ∧ Gk H as (upd H A (.lst (vs ++ [v]))) as := by
  have g : Gk H as (upd H A (.lst (vs ++ [v]))) as := Gk.fill h.rs h.mem
  exact ⟨⟨h.gk.trans g, h.suf, fun b hb => by rw [upd_ne (h.ne b hb)]; exact h.held b hb, h.rs.fill h.mem (.inl ⟨_, rfl⟩), ⟨_, upd_same, RVs.gk g (r.append (.cons q .nil))⟩, h.ne⟩, g⟩
/-- what is wanted of the rest of the items -/
def PF (G : Gx) (B : Fb G) (acc : List D) (H : Hp) (as : As) (F : Hp → Prop) : Out (List D) → Prop
  | .ok ys st' => B.Ok (acc ++ ys) ∧ ∀ as' H', Gk H as H' as' → FI G B as' st' H' (acc ++ ys) → F H'
  | _ => False
theorem PF.gk {G : Gx} {B : Fb G} {acc : List D} {H H1 : Hp} {as as1 : As} {F : Hp → Prop} {o : Out (List D)} (g : Gk H as H1 as1) (h : PF G B acc H as F o) : PF G B acc H1 as1 F o := by
  cases o with
  | ok ys st => exact ⟨h.1, fun as' H' g' => h.2 as' H' (g.trans g')⟩
  | exc e s => exact h
  | bad => exact h
/-- a part's own end -/
theorem PF.bind {α β : Type} {G : Gx} {R : Hp → As → α → β → Prop} {B : Fb G} {acc : List D} {H : Hp} {as : As} {F : Hp → Prop} {o : Out α} {k : α → Mo (List D)} (h : PF G B acc H as F ((nx o).bind k)) {E : XK} :
    Post G R H as E (fun v H1 => ∃ a as1 st1, Gr H as H1 as1 ∧ Rs G as1 st1 H1 ∧ R H1 as1 a v ∧ PF G B acc H1 as1 F (k a st1)) o := by
  cases o with
  | ok a st => exact fun as' v H' g r q => ⟨a, as', st, g, r, q, PF.gk g.toGk h⟩
  | exc e s => exact h.elim
  | bad => exact h.elim
theorem PF.step {G : Gx} {B : Fb G} {acc : List D} {H : Hp} {as : As} {F : Hp → Prop} {o : Out (List D)} {k : Mo (List D)} (h : PF G B acc H as F (o.bind fun ys st1 => (k st1).bind fun zs st2 => .ok (ys ++ zs) st2)) :
    PF G B acc H as (fun H' => ∃ as' st' acc', Gk H as H' as' ∧ FI G B as' st' H' acc' ∧ PF G B acc' H' as' F (k st')) o := by
  cases o with
  | ok ys st =>
    have h : PF G B acc H as F ((k st).bind fun zs st2 => .ok (ys ++ zs) st2) := h
    cases e : k st with
    | ok zs st2 =>
      rw [e] at h
      have h1 := h.1
      rw [← List.append_assoc] at h1
      refine ⟨B.okp h1, fun as' H' g fi => ⟨as', st, acc ++ ys, g, fi, ?_⟩⟩
      rw [e]
      exact ⟨h1, fun as2 H2 g2 fi2 => h.2 as2 H2 (g.trans g2) (by rw [← List.append_assoc]; exact fi2)⟩
    | exc x s => rw [e] at h; exact h.elim
    | bad => rw [e] at h; exact h.elim
  | exc x s => exact h.elim
  | bad => exact h.elim
/-- the loop over the items -/
theorem comp_loop {G : Gx} {B : Fb G} {Hb : Hp} {ab : As} {src : Src} {J : It} {step : D → Mo (List D)} {F : Hp → Prop} {TURN : V → Hp → (Hp → Prop) → Prop} (hsrc : SrcOk G Hb ab src J)
    (hT : ∀ (d : D) (v : V) (as : As) (st : List Cell) (H : Hp) (acc : List D) (Nx : Hp → Prop), Gk Hb ab H as → FI G B as st H acc → RV G H as d v → PF G B acc H as Nx (step d st) → TURN v H Nx)
    {H0 : Hp} {as0 : As} {st0 : List Cell} {acc0 : List D} (g0 : Gk Hb ab H0 as0) (f0 : FI G B as0 st0 H0 acc0) (hp : PF G B acc0 H0 as0 F (compS src step st0)) :
    ∃ W : Nat → Nat → Hp → Prop, (∃ m, W 0 m H0) ∧ ∀ i m H, W i m H → (J.stop i H ∧ F H) ∨ (J.go i H ∧ ∃ Nx : Hp → Prop, (∀ H', Nx H' → ∃ m', m' < m ∧ W (i + 1) m' H') ∧ ∀ x H', J.yld i H x H' → TURN x H' Nx) := by
  cases src with
  | items l =>
    refine ⟨fun i m H => m = l.length - i ∧ i ≤ l.length ∧ ∃ as st acc, Gk Hb ab H as ∧ FI G B as st H acc ∧ PF G B acc H as F (compL step (l.drop i) st), ⟨_, rfl, Nat.zero_le _, as0, st0, acc0, g0, f0, hp⟩, ?_⟩
    rintro i m H2 ⟨rfl, hi, as2, st2, acc2, g2, f2, hp2⟩
    by_cases hl : i < l.length
    · have e1 : l.drop i = l[i] :: l.drop (i + 1) := List.drop_eq_getElem_cons hl
      rw [e1] at hp2
      obtain ⟨w1, w2⟩ := hsrc.go as2 st2 H2 i l[i] g2 f2.rs (List.getElem?_eq_getElem hl)
      refine .inr ⟨w1, _, fun H' q => ⟨l.length - (i + 1), by omega, q⟩, fun v H3 y => ?_⟩
      obtain ⟨g3, rs3, rx⟩ := w2 v H3 y
      refine hT l[i] v as2 st2 H3 acc2 _ (g2.trans g3.toGk) (f2.gr g3 rs3) rx ?_
      have hp2 := PF.gk g3.toGk (PF.step hp2)
      cases eo : step l[i] st2 with
      | ok ys st3 =>
        rw [eo] at hp2
        refine ⟨hp2.1, fun as' H' g' fi' => ?_⟩
        obtain ⟨as4, st4, acc4, g4, f4, hp4⟩ := hp2.2 as' H' g' fi'
        exact ⟨rfl, hl, as4, st4, acc4, g2.trans g4, f4, hp4⟩
      | exc x s => rw [eo] at hp2; exact hp2.elim
      | bad => rw [eo] at hp2; exact hp2.elim
    · have e0 : i = l.length := by omega
      subst e0
      rw [List.drop_length] at hp2
      exact .inl ⟨hsrc.stop as2 st2 H2 g2 f2.rs, hp2.2 as2 H2 (Gk.refl _ _) (by rw [List.append_nil]; exact f2)⟩
  | cell n =>
    obtain ⟨a, ea, rfl⟩ := hsrc
    refine ⟨fun i m H => ∃ as st acc, Gk Hb ab H as ∧ FI G B as st H acc ∧ PF G B acc H as F (compR n step m i st), ⟨_, as0, st0, acc0, g0, f0, hp⟩, ?_⟩
    rintro i m H2 ⟨as2, st2, acc2, g2, f2, hp2⟩
    cases m with
    | zero => exact hp2.elim
    | succ m =>
      have hp2 : PF G B acc2 H2 as2 F (match st2[n]? with
        | some (.lst l) => match l[i]? with
          | none => .ok [] st2
          | some x => (step (.dat x) st2).bind fun ys st1 => (compR n step m (i + 1) st1).bind fun zs st2 => .ok (ys ++ zs) st2
        | _ => .bad) := hp2
      cases ec : st2[n]? with
      | none => rw [ec] at hp2; exact hp2.elim
      | some c =>
        rw [ec] at hp2
        cases c with
        | dic l => exact hp2.elim
        | obj c fs => exact hp2.elim
        | lst l =>
          obtain ⟨vs, h1, h2⟩ := f2.rs.cell _ _ _ (g2.get ea) ec
          have hq : SqL G.K H2 a vs := .inl (.inl h1)
          have hp2 : PF G B acc2 H2 as2 F (match l[i]? with
            | none => .ok [] st2
            | some x => (step (.dat x) st2).bind fun ys st1 => (compR n step m (i + 1) st1).bind fun zs st2 => .ok (ys ++ zs) st2) := hp2
          cases ei : l[i]? with
          | none =>
            rw [ei] at hp2
            exact .inl ⟨⟨vs, hq, by rw [h2.length]; exact List.getElem?_eq_none_iff.mp ei⟩, hp2.2 as2 H2 (Gk.refl _ _) (by rw [List.append_nil]; exact f2)⟩
          | some x =>
            rw [ei] at hp2
            obtain ⟨y, ey, ry⟩ := h2.get ei
            refine .inr ⟨⟨vs, y, hq, ey⟩, _, fun H' q => ⟨m, Nat.lt_succ_self _, q⟩, fun v H3 ⟨e3, hy⟩ => ?_⟩
            subst e3
            have := hy vs hq
            rw [ey] at this; cases this
            refine hT (.dat x) y as2 st2 _ acc2 _ g2 f2 (.dat ry) ?_
            have hp2 := PF.step hp2
            cases eo : step (.dat x) st2 with
            | ok ys st3 =>
              rw [eo] at hp2
              refine ⟨hp2.1, fun as' H' g' fi' => ?_⟩
              obtain ⟨as4, st4, acc4, g4, f4, hp4⟩ := hp2.2 as' H' g' fi'
              exact ⟨as4, st4, acc4, g2.trans g4, f4, hp4⟩
            | exc x s => rw [eo] at hp2; exact hp2.elim
            | bad => rw [eo] at hp2; exact hp2.elim
/-- the turn's own readings -/
def tBs (G : Gz) (f : Ev → Mo Bool) : TT := tB G W0 f
theorem Post.nxE {α β : Type} {G : Gx} {R : Hp → As → α → β → Prop} {H : Hp} {as : As} {E E' : XK} {Q : β → Hp → Prop} {o : Out α} (ho : ∀ e s, o ≠ .exc e s) (h : Post G R H as E Q o) : Post G R H as E' Q o := by
  cases o with
  | ok a s => exact h
  | exc e s => exact absurd rfl (ho e s)
  | bad => exact h
/-- if .. elt: the end of a turn -/
theorem turn_elt {G : Gz} {H0 : Hp} {a0 : As} {A : Addr} {c : Ev → Mo Bool} {f : Ev → Mo D} {ρ1 : Ev} {σ2 : L2.St} {as : As} {st : List Cell} {H : Hp} {acc : List D} {Nx : Hp → Prop} (re : RE G H as ρ1 σ2) (fi : FI G (Fb.lst G H0 a0 A) as st H acc)
    (hp : PF G (Fb.lst G H0 a0 A) acc H as Nx ((nx (c ρ1 st)).bind fun b st2 => if b = true then (nx (f ρ1 st2)).bind fun y st3 => .ok [y] st3 else .ok [] st2)) :
    tB G W0 c σ2 H fun b H3 => if b = true then tE G W0 f σ2 H3 (fun y H4 => ∃ acc, H4 A = some (.lst acc) ∧ acc.length < sizeLine ∧ Nx (upd H4 A (.lst (acc ++ [y])))) else Nx H3 := by
  refine ⟨ρ1, as, st, re, fi.rs, (PF.bind hp).mono fun b H3 ⟨b', as3, st3, g3, rs3, e3, hp3⟩ => ?_⟩
  subst e3
  have f3 := fi.gr g3 rs3
  cases b' with
  | false =>
    rw [if_neg Bool.false_ne_true] at hp3 ⊢
    exact hp3.2 as3 H3 (Gk.refl _ _) (by rw [List.append_nil]; exact f3)
  | true =>
    rw [if_pos rfl] at hp3 ⊢
    refine ⟨ρ1, as3, st3, re.gr g3, rs3, (PF.bind hp3).mono fun y H4 ⟨yd, as4, st4, g4, rs4, ry, hp4⟩ => ?_⟩
    have f4 := f3.gr g4 rs4
    obtain ⟨vs, e, r⟩ := f4.at_
    obtain ⟨f5, g5⟩ := f4.app e r ry
    refine ⟨vs, e, ?_, hp4.2 as4 _ g5 f5⟩
    have : (acc ++ [yd]).length ≤ lim := hp4.1
    rw [List.length_append] at this
    rw [← r.length, ← lim_eq]
    simp at this
    omega
theorem wipe_wipe {σ : L2.St} {vs : List Nat} : ∀ {ws : List Nat}, (∀ w ∈ ws, w ∈ vs) → L2.wipe (L2.wipe σ ws) vs = L2.wipe σ vs
  | [], _ => rfl
  | w :: ws, h => by
    show L2.wipe ((L2.wipe σ ws).set w none) vs = _
    rw [wipe_set (h w List.mem_cons_self)]
    exact wipe_wipe fun x hx => h x (List.mem_cons_of_mem _ hx)
theorem turn1 {G : Gz} {H0 : Hp} {a0 : As} {A : Addr} {t : Tg} {c : Ev → Mo Bool} {f : Ev → Mo D} {vs : List Nat} {ρ0 : Ev} {σ : L2.St} {Hb : Hp} {ab : As} (re0 : RE G Hb ab ρ0 (L2.wipe σ vs))
    (d : D) (v : V) (as : As) (st : List Cell) (H : Hp) (acc : List D) (Nx : Hp → Prop) (g : Gk Hb ab H as) (fi : FI G (Fb.lst G H0 a0 A) as st H acc) (rd : RV G H as d v) (hp : PF G (Fb.lst G H0 a0 A) acc H as Nx (step1 t c f ρ0 d st)) :
    tGw G vs t v (L2.wipe σ vs) H fun σ2 H2 => L2.wipe σ2 vs = L2.wipe σ vs ∧ tB G W0 c σ2 H2 fun b H3 => if b = true then tE G W0 f σ2 H3 (fun y H4 => ∃ acc, H4 A = some (.lst acc) ∧ acc.length < sizeLine ∧ Nx (upd H4 A (.lst (acc ++ [y])))) else Nx H3 := by
  refine ⟨ρ0, d, as, st, re0.gk g, rd, fi.rs, (PF.bind hp).mono fun σ2 H2 ⟨ρ1, as2, st2, g2, rs2, ⟨re2, w2⟩, hp2⟩ => ⟨w2.trans (wipe_wipe fun _ z => z), turn_elt re2 (fi.gr g2 rs2) hp2⟩⟩
/-- the end of a comprehension -/
theorem comp_end {G : Gx} {H1 H : Hp} {as1 as : As} {A : Addr} {st st1 : List Cell} {ys : List D} {E : XK} {Q : VK} {fin : List D → Mo D} (rs1 : Rs G as1 st1 H1) (hA : H1 A = none) (fi : FI G (Fb.lst G H1 as1 A) as st H ys) (hf : fin = finL ∨ fin = finM) (hp : Post G (RV G) H1 as1 E Q (fin ys st)) : Q (.ref A) H := by
  obtain ⟨vs, e, r⟩ := fi.at_
  have nb := rs1.fresh hA
  let as' : As := ⟨as.m, as1.h⟩
  have hsub : as1.h ⊆ as.h := fun x hx => fi.suf.subset (List.mem_cons_of_mem _ hx)
  have nm : A ∉ as.m := (fi.rs.hd A fi.mem).1
  have rs' : Rs G as' st H := fi.rs.hide rfl hsub
  have bd : ∀ b, as'.bad b → as.bad b := fun b z => z.imp id fun z => hsub z
  have g' : Gr H1 as1 H as' := ⟨⟨fi.gk.fix, fun b o h1 h2 h3 => ⟨(fi.gk.keep b o h1 h2 h3).1, fun z => (fi.gk.keep b o h1 h2 h3).2 (bd b z)⟩, fi.gk.pre⟩, List.suffix_refl _, fi.held⟩
  have nb' : ¬ as'.bad A := fun z => z.elim nm fun z => nb (.inr z)
  have r' : RVs G H as' ys vs := RVs.less (by rfl) bd r
  rcases hf with rfl | rfl
  · unfold finL mkLst at hp
    cases ed : datAll ys with
    | some l =>
      rw [ed] at hp
      rw [datAll_some ed] at r'
      exact hp as' (.ref A) H g' rs' (.dat (.lst ⟨nb', .inl e⟩ (RVs.to_dq r')))
    | none =>
      rw [ed] at hp
      exact hp as' (.ref A) H g' rs' (.lst (.inl ⟨nb', .inl e⟩) r')
  · unfold finM at hp
    cases ed : datAll ys with
    | none => rw [ed] at hp; exact hp.elim
    | some l =>
      rw [ed] at hp
      rw [datAll_some ed] at r
      have q := RVs.to_dq r
      have ls2 : ∀ b, (as'.add A).bad b → as.bad b := fun b z => by
        rcases z with z | z
        · rcases List.mem_append.mp z with z | z
          · exact .inl z
          · rw [List.mem_singleton.mp z]; exact .inr fi.mem
        · exact .inr (hsub z)
      refine hp (as'.add A) (.ref A) H ⟨⟨fi.gk.fix, fun b o h1 h2 h3 => ⟨(fi.gk.keep b o h1 h2 h3).1, fun z => (fi.gk.keep b o h1 h2 h3).2 (ls2 b z)⟩, fi.gk.pre.trans (List.prefix_append _ _)⟩, List.suffix_refl _, fi.held⟩ ⟨?_, ?_, fun m b d e1 e2 => ?_, fi.rs.tabs, fun b hb => ⟨fun z => ?_, (rs'.hd b hb).2⟩⟩ (.ref ?_)
      · exact List.nodup_append.mpr ⟨fi.rs.nd, by simp, fun x hx y hy z => nm (by rw [List.mem_singleton] at hy; rw [← hy, ← z]; exact hx)⟩
      · show (as.m ++ [A]).length = _
        have := fi.rs.len
        simp only [List.length_append, List.length_singleton]
        omega
      · have e1 : (as.m ++ [A])[m]? = some b := e1
        have l2 := fi.rs.len
        by_cases hm : m < as.m.length
        · rw [List.getElem?_append_left hm] at e1
          rw [List.getElem?_append_left (by rw [← l2]; exact hm)] at e2
          exact (fi.rs.cell m b d e1 e2).less ls2
        · rw [List.getElem?_append_right (by omega)] at e1
          rw [List.getElem?_append_right (by rw [← l2]; omega), ← l2] at e2
          have e0 : m - as.m.length = 0 := by
            have := (List.getElem?_eq_some_iff.mp e1).1
            simp at this; omega
          rw [e0] at e1 e2
          simp at e1 e2
          subst e1; subst e2
          exact ⟨vs, e, q.less ls2⟩
      · rcases List.mem_append.mp z with z | z
        · exact (rs'.hd b hb).1 z
        · rw [List.mem_singleton] at z
          exact nb (.inr (z ▸ hb))
      · show (as.m ++ [A])[st.length]? = some A
        rw [← fi.rs.len]; simp
theorem st_yes {G : Gz} {X : Cx} : PTs X [] (tB G W0 cYes) := PTs.imp pts_nil fun σ H Q ⟨ρ, as, st, re, rs, hp⟩ => hp as true H (Gr.refl _ _) rs rfl
theorem st_onec {G : Gz} {X : Cx} {e : Expr} {c : Ev → Mo Bool} (h : PT X e (tB G W0 c)) : PTs X [e] (tB G W0 c) := pts_one h
theorem lc_imp {G : Gz} {W : WX} {fi : Ev → Mo Src} {vs : List Nat} {t : Tg} {c : Ev → Mo Bool} {f : Ev → Mo D} {fin : List D → Mo D} (hf : fin = finL ∨ fin = finM) (σ : L2.St) (H : Hp) (Q : VK) (h : tE G W (cComp fi vs (step1 t c f) fin) σ H Q) :
    tLc (tI G W fi) (tGw G vs t) (tB G W0 c) (tE G W0 f) vs σ H Q := by
  obtain ⟨ρ, as, st, re, rs, hp⟩ := h
  refine ⟨ρ, as, st, re, rs, (Post.bind hp).mono fun J H1 ⟨src, as1, st1, _, g1, rs1, hsrc, hp1⟩ A hA => ?_⟩
  cases e : compS src (step1 t c f (forget ρ vs)) st1 with
  | exc x s => rw [e] at hp1; exact hp1.elim
  | bad => rw [e] at hp1; exact hp1.elim
  | ok ys st2 =>
    rw [e] at hp1
    have hp1 : Post G (RV G) H1 as1 (fun c d H' => W c d σ H') Q (if ys.length ≤ lim then fin ys st2 else .bad) := hp1
    by_cases hl : ys.length ≤ lim
    · rw [if_pos hl] at hp1
      have gp := Gr.push (o := .lst []) rs1 hA
      have f0 : FI G (Fb.lst G H1 as1 A) (as1.push A) st1 (upd H1 A (.lst [])) [] :=
        ⟨gp.toGk, List.suffix_refl _, fun b hb => upd_ne fun z => rs1.fresh hA (.inr (z ▸ hb)), rs1.push hA (.inl ⟨_, rfl⟩), ⟨[], upd_same, .nil⟩, fun b hb z => rs1.fresh hA (.inr (by have z : b = A := z; exact z ▸ hb))⟩
      refine comp_loop (F := fun H => Q (.ref A) H) hsrc (turn1 (H0 := H1) (a0 := as1) (A := A) (vs := vs) (t := t) (c := c) (f := f) ((re.gr g1).wipe vs)) gp.toGk f0 ?_
      rw [e]
      exact ⟨hl, fun as' H' _ fi' => comp_end rs1 hA fi' hf hp1⟩
    · rw [if_neg hl] at hp1; exact hp1.elim
/-- the inner clause's turn -/
theorem lc2_imp {G : Gz} {W : WX} {fi fi1 : Ev → Mo Src} {vs vs1 : List Nat} {t t1 : Tg} {c c1 : Ev → Mo Bool} {f : Ev → Mo D} {fin : List D → Mo D} (hf : fin = finL ∨ fin = finM) (σ : L2.St) (H : Hp) (Q : VK) (h : tE G W (cComp fi vs (step2 t c fi1 vs1 (step1 t1 c1 f)) fin) σ H Q) :
    tLc2 (tI G W fi) (tGw G vs t) (tB G W0 c) (tI G W0 fi1) (tGw G vs1 t1) (tB G W0 c1) (tE G W0 f) vs vs1 σ H Q := by
  obtain ⟨ρ, as, st, re, rs, hp⟩ := h
  refine ⟨ρ, as, st, re, rs, (Post.bind hp).mono fun J H1 ⟨src, as1, st1, _, g1, rs1, hsrc, hp1⟩ A hA => ?_⟩
  cases e : compS src (step2 t c fi1 vs1 (step1 t1 c1 f) (forget ρ vs)) st1 with
  | exc x s => rw [e] at hp1; exact hp1.elim
  | bad => rw [e] at hp1; exact hp1.elim
  | ok ys st2 =>
    rw [e] at hp1
    have hp1 : Post G (RV G) H1 as1 (fun c d H' => W c d σ H') Q (if ys.length ≤ lim then fin ys st2 else .bad) := hp1
    by_cases hl : ys.length ≤ lim
    · rw [if_pos hl] at hp1
      have gp := Gr.push (o := .lst []) rs1 hA
      have f0 : FI G (Fb.lst G H1 as1 A) (as1.push A) st1 (upd H1 A (.lst [])) [] :=
        ⟨gp.toGk, List.suffix_refl _, fun b hb => upd_ne fun z => rs1.fresh hA (.inr (z ▸ hb)), rs1.push hA (.inl ⟨_, rfl⟩), ⟨[], upd_same, .nil⟩, fun b hb z => rs1.fresh hA (.inr (by have z : b = A := z; exact z ▸ hb))⟩
      refine comp_loop (B := (Fb.lst G H1 as1 A)) (F := fun H => Q (.ref A) H) (step := step2 t c fi1 vs1 (step1 t1 c1 f) (forget ρ vs)) hsrc ?_ gp.toGk f0 ?_
      · intro d v as st H acc Nx g fi rd hp
        refine ⟨forget ρ vs, d, as, st, ((re.gr g1).wipe vs).gk g, rd, fi.rs, (PF.bind hp).mono fun σ2 H2 ⟨ρ1, as2, st2, g2, rs2, ⟨re2, w2⟩, hp2⟩ => ⟨w2.trans (wipe_wipe fun _ z => z), ?_⟩⟩
        have fi2 := fi.gr g2 rs2
        refine ⟨ρ1, as2, st2, re2, rs2, (PF.bind hp2).mono fun b H3 ⟨b', as3, st3, g3, rs3, e3, hp3⟩ => ?_⟩
        subst e3
        have fi3 := fi2.gr g3 rs3
        cases b' with
        | false =>
          rw [if_neg Bool.false_ne_true] at hp3 ⊢
          exact hp3.2 as3 H3 (Gk.refl _ _) (by rw [List.append_nil]; exact fi3)
        | true =>
          rw [if_pos rfl] at hp3 ⊢
          refine ⟨ρ1, as3, st3, re2.gr g3, rs3, (PF.bind hp3).mono fun J1 H4 ⟨src1, as4, st4, g4, rs4, hsrc1, hp4⟩ => ?_⟩
          exact comp_loop (B := (Fb.lst G H1 as1 A)) hsrc1 (turn1 (H0 := H1) (a0 := as1) (A := A) (vs := vs1) (t := t1) (c := c1) (f := f) (((re2.gr g3).gr g4).wipe vs1)) (Gk.refl _ _) (fi3.gr g4 rs4) hp4
      · rw [e]
        exact ⟨hl, fun as' H' _ fi' => comp_end rs1 hA fi' hf hp1⟩
    · rw [if_neg hl] at hp1; exact hp1.elim
section
variable {G : Gz} {X : Cx} {W : WX} {k i : Nat} {elt tg iter tg1 iter1 : Expr} {ifs ifs1 : List Expr} {scope : Scope} {own : List (Str × Nat)} {vs1 : List Nat} {pos spos py : Pos} {y : Str} {fi fi1 : Ev → Mo Src} {t t1 : Tg} {c c1 : Ev → Mo Bool} {f : Ev → Mo D} {fin : List D → Mo D}
theorem se_comp (C : Cz G X W k) (hN : X.N.Nodup) (hf : fin = finL ∨ fin = finM) (hi : PI X tg iter (tI G W fi)) (ok : BlkOk X.N X.env.scope scope own)
    (hg : ∀ s H Cc cl fp, Cz G (X.blk s H scope (compEnvC scope cl Cc X.env) fp) W0 k → PG (X.blk s H scope (compEnvC scope cl Cc X.env) fp) tg (tGw G (own.map (·.2)) t))
    (ht : ∀ s H Cc cl fp, Cz G (X.blk s H scope (compEnvC scope cl Cc X.env) fp) W0 k → PTs (X.blk s H scope (compEnvC scope cl Cc X.env) fp) ifs (tB G W0 c))
    (he : ∀ s H Cc cl fp, Cz G (X.blk s H scope (compEnvC scope cl Cc X.env) fp) W0 k → PE (X.blk s H scope (compEnvC scope cl Cc X.env) fp) elt (tE G W0 f))
    (hs : ∀ x, foldedSetIterable iter X.env x = pure x := by intro _; rfl) :
    PE X (.ListComp elt [⟨tg, iter, ifs, 0⟩] scope pos) (tE G W (cComp fi (own.map (·.2)) (step1 t c f) fin)) :=
  PE.imp (pe_lc C.calm hN hi ok (fun s H Cc cl fp => hg s H Cc cl fp (C.blk _ _ _ _ _)) (fun s H Cc cl fp => ht s H Cc cl fp (C.blk _ _ _ _ _)) (fun s H Cc cl fp => he s H Cc cl fp (C.blk _ _ _ _ _)) hs) (lc_imp hf)
theorem se_comp2 (C : Cz G X W k) (hN : X.N.Nodup) (hf : fin = finL ∨ fin = finM) (hi : PI X tg iter (tI G W fi)) (ok : BlkOk X.N X.env.scope scope own) (hv : ∀ i ∈ vs1, i ∈ own.map (·.2))
    (hg : ∀ s H Cc cl fp, Cz G (X.blk s H scope (compEnvC scope cl Cc X.env) fp) W0 k → PG (X.blk s H scope (compEnvC scope cl Cc X.env) fp) tg (tGw G (own.map (·.2)) t))
    (ht : ∀ s H Cc cl fp, Cz G (X.blk s H scope (compEnvC scope cl Cc X.env) fp) W0 k → PTs (X.blk s H scope (compEnvC scope cl Cc X.env) fp) ifs (tB G W0 c))
    (hi1 : ∀ s H Cc cl fp, Cz G (X.blk s H scope (compEnvC scope cl Cc X.env) fp) W0 k → PI (X.blk s H scope (compEnvC scope cl Cc X.env) fp) tg1 iter1 (tI G W0 fi1))
    (hg1 : ∀ s H Cc cl fp, Cz G (X.blk s H scope (compEnvC scope cl Cc X.env) fp) W0 k → PG (X.blk s H scope (compEnvC scope cl Cc X.env) fp) tg1 (tGw G vs1 t1))
    (ht1 : ∀ s H Cc cl fp, Cz G (X.blk s H scope (compEnvC scope cl Cc X.env) fp) W0 k → PTs (X.blk s H scope (compEnvC scope cl Cc X.env) fp) ifs1 (tB G W0 c1))
    (he : ∀ s H Cc cl fp, Cz G (X.blk s H scope (compEnvC scope cl Cc X.env) fp) W0 k → PE (X.blk s H scope (compEnvC scope cl Cc X.env) fp) elt (tE G W0 f))
    (hs : ∀ x, foldedSetIterable iter X.env x = pure x := by intro _; rfl) (hs1 : ∀ env x, foldedSetIterable iter1 env x = pure x := by intro _ _; rfl) :
    PE X (.ListComp elt [⟨tg, iter, ifs, 0⟩, ⟨tg1, iter1, ifs1, 0⟩] scope pos) (tE G W (cComp fi (own.map (·.2)) (step2 t c fi1 vs1 (step1 t1 c1 f)) fin)) :=
  PE.imp (pe_lc2 C.calm hN hi ok hv (fun s H Cc cl fp => hg s H Cc cl fp (C.blk _ _ _ _ _)) (fun s H Cc cl fp => ht s H Cc cl fp (C.blk _ _ _ _ _)) (fun s H Cc cl fp => hi1 s H Cc cl fp (C.blk _ _ _ _ _)) (fun s H Cc cl fp => hg1 s H Cc cl fp (C.blk _ _ _ _ _)) (fun s H Cc cl fp => ht1 s H Cc cl fp (C.blk _ _ _ _ _)) (fun s H Cc cl fp => he s H Cc cl fp (C.blk _ _ _ _ _)) hs hs1) (lc2_imp hf)
/-- name = [..] -/
theorem sp_asgC (C : Cz G X W k) (hN : X.N.Nodup) (hy : X.N[i]? = some y) (hyl : X.env.scope.names.lookup y = some .local) (hsw : swapsWith (.ListComp elt [⟨tg, iter, ifs, 0⟩] scope pos) (some (.Name y py)) spos.line X.env = pure true) (hf : fin = finL ∨ fin = finM) (hi : PI X tg iter (tI G W fi)) (ok : BlkOk X.N X.env.scope scope own)
    (hg : ∀ s H Cc cl fp, Cz G (X.blk s H scope (compEnvC scope cl Cc X.env) fp) W0 k → PG (X.blk s H scope (compEnvC scope cl Cc X.env) fp) tg (tGw G (own.map (·.2)) t))
    (ht : ∀ s H Cc cl fp, Cz G (X.blk s H scope (compEnvC scope cl Cc X.env) fp) W0 k → PTs (X.blk s H scope (compEnvC scope cl Cc X.env) fp) ifs (tB G W0 c))
    (he : ∀ s H Cc cl fp, Cz G (X.blk s H scope (compEnvC scope cl Cc X.env) fp) W0 k → PE (X.blk s H scope (compEnvC scope cl Cc X.env) fp) elt (tE G W0 f))
    (hs : ∀ x, foldedSetIterable iter X.env x = pure x := by intro _; rfl) :
    PS X (.Assign [.Name y py] (.ListComp elt [⟨tg, iter, ifs, 0⟩] scope pos) spos) (tS G W (sAsg i (cComp fi (own.map (·.2)) (step1 t c f) fin))) :=
  PS.imp (ps_setLc C.calm hN hy hyl hsw hi ok (fun s H Cc cl fp => hg s H Cc cl fp (C.blk _ _ _ _ _)) (fun s H Cc cl fp => ht s H Cc cl fp (C.blk _ _ _ _ _)) (fun s H Cc cl fp => he s H Cc cl fp (C.blk _ _ _ _ _)) hs) fun D σ H h => by
    have h' := asg_imp D σ H h
    exact lc_imp hf _ _ _ h'
theorem sp_asgC2 (C : Cz G X W k) (hN : X.N.Nodup) (hy : X.N[i]? = some y) (hyl : X.env.scope.names.lookup y = some .local) (hsw : swapsWith (.ListComp elt [⟨tg, iter, ifs, 0⟩, ⟨tg1, iter1, ifs1, 0⟩] scope pos) (some (.Name y py)) spos.line X.env = pure true) (hf : fin = finL ∨ fin = finM) (hi : PI X tg iter (tI G W fi)) (ok : BlkOk X.N X.env.scope scope own) (hv : ∀ i ∈ vs1, i ∈ own.map (·.2))
    (hg : ∀ s H Cc cl fp, Cz G (X.blk s H scope (compEnvC scope cl Cc X.env) fp) W0 k → PG (X.blk s H scope (compEnvC scope cl Cc X.env) fp) tg (tGw G (own.map (·.2)) t))
    (ht : ∀ s H Cc cl fp, Cz G (X.blk s H scope (compEnvC scope cl Cc X.env) fp) W0 k → PTs (X.blk s H scope (compEnvC scope cl Cc X.env) fp) ifs (tB G W0 c))
    (hi1 : ∀ s H Cc cl fp, Cz G (X.blk s H scope (compEnvC scope cl Cc X.env) fp) W0 k → PI (X.blk s H scope (compEnvC scope cl Cc X.env) fp) tg1 iter1 (tI G W0 fi1))
    (hg1 : ∀ s H Cc cl fp, Cz G (X.blk s H scope (compEnvC scope cl Cc X.env) fp) W0 k → PG (X.blk s H scope (compEnvC scope cl Cc X.env) fp) tg1 (tGw G vs1 t1))
    (ht1 : ∀ s H Cc cl fp, Cz G (X.blk s H scope (compEnvC scope cl Cc X.env) fp) W0 k → PTs (X.blk s H scope (compEnvC scope cl Cc X.env) fp) ifs1 (tB G W0 c1))
    (he : ∀ s H Cc cl fp, Cz G (X.blk s H scope (compEnvC scope cl Cc X.env) fp) W0 k → PE (X.blk s H scope (compEnvC scope cl Cc X.env) fp) elt (tE G W0 f))
    (hs : ∀ x, foldedSetIterable iter X.env x = pure x := by intro _; rfl) (hs1 : ∀ env x, foldedSetIterable iter1 env x = pure x := by intro _ _; rfl) :
    PS X (.Assign [.Name y py] (.ListComp elt [⟨tg, iter, ifs, 0⟩, ⟨tg1, iter1, ifs1, 0⟩] scope pos) spos) (tS G W (sAsg i (cComp fi (own.map (·.2)) (step2 t c fi1 vs1 (step1 t1 c1 f)) fin))) :=
  PS.imp (ps_setLc2 C.calm hN hy hyl hsw hi ok hv (fun s H Cc cl fp => hg s H Cc cl fp (C.blk _ _ _ _ _)) (fun s H Cc cl fp => ht s H Cc cl fp (C.blk _ _ _ _ _)) (fun s H Cc cl fp => hi1 s H Cc cl fp (C.blk _ _ _ _ _)) (fun s H Cc cl fp => hg1 s H Cc cl fp (C.blk _ _ _ _ _)) (fun s H Cc cl fp => ht1 s H Cc cl fp (C.blk _ _ _ _ _)) (fun s H Cc cl fp => he s H Cc cl fp (C.blk _ _ _ _ _)) hs hs1) fun D σ H h => by
    have h' := asg_imp D σ H h
    exact lc2_imp hf _ _ _ h'
end
end Zp

set_option Elab.async false
set_option linter.all false
set_option autoImplicit false
set_option maxRecDepth 100000
set_option maxHeartbeats 4000000
namespace PySem
theorem meets_enumerate_newTup (l : Addr) (items : Array Value) (n : Nat) (dct : Option Addr) (sl : Array (Option Value)) :
    Meets (Builtin.«enumerate.__new__» ⟨[.type "enumerate", .ref l], []⟩) (fun _ R s => s.heap.get? l = some { cls := .type "tuple", dict := dct, data := .seq items n, slots := sl } ∧
      R (.ok (.ret (.ref (s.heap.push { cls := .type "tuple_iterator", data := .fields #[.ref l, .int 0 0] }).objs.size)))
        { s with heap := (s.heap.push { cls := .type "tuple_iterator", data := .fields #[.ref l, .int 0 0] }).push { cls := .type "enumerate", data := .fields #[.none, .bool false, .ref s.heap.objs.size, rawInt 0, .none, .none] } }) :=
  .of_wp fun prog w A R s h => by
    obtain ⟨hp, g, d, tk, os⟩ := s; obtain ⟨hl, h⟩ := h
    have hsub := sub_enumerate
    have hL : Heap.IsTuple (Shared.heap ⟨hp, g, d, tk, os⟩) l items := ⟨_, hl, rfl, n, rfl⟩
    wp_walk using AutoSeq1.wpAny_loadPart' hl
    refine wpAny_stack_any fun st => wpAny_pure ?_
    split
    · rename_i c _ _ _ _ _
      cases (c == Value.type "enumerate")
      · wp_walk using AutoSeq1.wpAny_loadPart' hl, wpAny_pyIter_tuple hL
        exact ⟨_, rfl, h⟩
      · wp_walk using AutoSeq1.wpAny_loadPart' hl, wpAny_pyIter_tuple hL
        exact ⟨_, rfl, h⟩
    · wp_walk using AutoSeq1.wpAny_loadPart' hl, wpAny_pyIter_tuple hL
      exact ⟨_, rfl, h⟩
theorem call_enumerate_tuple {prog : Program} {w : World} {A : Around} {E : Value → Shared → Prop} {s : Shared} {l : Addr} {items : Array Value} {Q : Value → Shared → Prop} (hL : s.heap.IsTuple l items)
    (h : ∀ h', IsEnum h' (s.heap.objs.size + 1) s.heap.objs.size 0 .none → h'.IsTupleIter s.heap.objs.size l 0 → h'.objs.size = s.heap.objs.size + 2 →
      (∀ b o, s.heap.get? b = some o → h'.get? b = some o) → Q (.ref (s.heap.objs.size + 1)) { s with heap := h' }) :
    wpAny (model prog w) A (call (.type "enumerate") [.ref l]) Q E s := by
  obtain ⟨⟨c, dct, dt, sl⟩, hl, hc, n, hd⟩ := hL
  replace hc : c = .type "tuple" := hc
  replace hd : dt = .seq items n := hd
  subst hc hd
  refine callType_new F.called_enumerate (by decide) (F.typeCall_enumerate_1 _) (F.newCall_enumerate_1 _) (fun obj => F.args_object_init_2 obj _) F.entry_enumerate_new
    (meets_enumerate_newTup l items n dct sl) ⟨hl, ?_⟩
  have hz : (s.heap.push { cls := .type "tuple_iterator", data := .fields #[.ref l, .int 0 0] }).objs.size = s.heap.objs.size + 1 := Heap.size_push ..
  show _ ∧ _
  rw [hz]
  have he : IsEnum ((s.heap.push { cls := .type "tuple_iterator", data := .fields #[.ref l, .int 0 0] }).push
      { cls := .type "enumerate", data := .fields #[.none, .bool false, .ref s.heap.objs.size, rawInt 0, .none, .none] }) (s.heap.objs.size + 1) s.heap.objs.size 0 .none := by
    have := Heap.get?_push_size (s.heap.push { cls := .type "tuple_iterator", data := .fields #[.ref l, .int 0 0] })
      (o := { cls := .type "enumerate", data := .fields #[.none, .bool false, .ref s.heap.objs.size, rawInt 0, .none, .none] }) rfl
    rw [hz] at this; exact this
  refine ⟨⟨_, he, rfl⟩, h _ he ⟨_, Heap.get?_push_of_some _ (Heap.get?_push_size _ rfl), rfl, rfl⟩ (by rw [Heap.size_push, hz]) fun b o x => Heap.get?_push_of_some _ (Heap.get?_push_of_some _ x)⟩
end PySem
namespace Zp
open PySem PySem.Spec PyProof.Rows L2
/-- the tuple at a, each item in a new pair -/
def IteT (K : PySem.W.Frag) (a : Addr) : It :=
  ⟨fun i H => ∃ (xs : List V) (x : V), SqT K H a xs ∧ xs[i]? = some x, fun i H v H' => ∃ T x, v = .ref T ∧ H T = none ∧ H' = upd H T (.tup [.int (i : Nat), x]) ∧ ∀ xs, SqT K H a xs → xs[i]? = some x, fun i H => ∃ xs : List V, SqT K H a xs ∧ xs.length ≤ i⟩
theorem turn_enumT {P : Program} {w : World} {K : PySem.W.Frag} {elts : List Expr} {kk : Nat} {tpos : Pos} (a e it : Addr) (hat : a ≠ it) :
    Turn P w K (.Tuple elts kk tpos) (IteT K a) [e, it] e (fun i h => (∃ old, IsEnum h e it ((i : Nat) : Int) old) ∧ h.IsTupleIter it a i ∧ e ≠ it ∧ e ≠ a) where
  mem := by simp
  obj := fun i h st b hb => by
    obtain ⟨⟨old, he⟩, ⟨o, ho, hc, hd⟩, _⟩ := st
    have e' : b = e ∨ b = it := by simpa using hb
    rcases e' with z | z
    · rw [z]; exact ⟨_, he, fun v q => nomatch q⟩
    · rw [z]; exact ⟨o, ho, fun v q => by rw [hd] at q; cases q⟩
  keep := fun i h h' st k => let ⟨⟨old, he⟩, hi, hne⟩ := st; ⟨⟨old, k e (by simp) _ he⟩, hi.at fun o q => k it (by simp) o q, hne⟩
  item := by
    intro X hP hw hK hc i pins s σ H E I hf st hg
    subst hP hw hK
    obtain ⟨⟨old, he⟩, hit, hne, hea⟩ := st
    obtain ⟨xs, x, hq, hx⟩ := hg
    obtain ⟨its, rv, p, hz⟩ := I.tuple hq
    obtain ⟨u, hu, ru⟩ := rv.get hx
    have hel : e < s.heap.objs.size := Heap.lt_size he
    have hil : it < s.heap.objs.size := by obtain ⟨_, q, _⟩ := hit; exact Heap.lt_size q
    have hu' : its.toArray[i]? = some u := by simpa using hu
    have hlt : i < its.toArray.size := (Array.getElem?_eq_some_iff.mp hu').1
    refine wpAny_pyNext_enum_itemD (A := X.A) (Draws.tuple (A := X.A.in1) (show X.A.in1.handled = none from I.ok.hd hc) it a hat its.toArray) he ⟨hit, (show s.heap.IsTuple a its.toArray from p)⟩ hlt hne (by simp [hne, hea]) fun x' h' tk hP ho hst' hT hsz hk => ?_
    rw [hu'] at hP; cases hP
    obtain ⟨hit', _⟩ := hst'
    refine ⟨_, rfl, wpAny_letOwnedTupleGo_enum (s := { s with heap := h', toks := tk + 1 }) ho fun h'' he' sb => ?_⟩
    have hT2 : h''.get? s.heap.objs.size = some { cls := .type "tuple", data := .seq #[.int i tk, u] } := (sb.2 _ (Nat.ne_of_gt hel)).trans hT
    have new : ObjOk X.prog X.w (upd H s.heap.objs.size (.tup [.int (i : Nat), x])) h'' s.heap.objs.size (.tup [.int (i : Nat), x]) :=
      ⟨by show 2 ≤ sizeLine; decide, [.int i tk, u], .cons ⟨_, rfl⟩ (.cons ru .nil), ⟨_, hT2, rfl, _, rfl⟩⟩
    have I1 : Inv X pins σ (upd H s.heap.objs.size (.tup [.int (i : Nat), x])) { s with heap := h'', toks := tk + 1 } :=
      I.turnedNew (ch := [e, it]) (fun b ob hb q => (sb.2 b (fun z => hb (by simp [z]))).trans (hk b ob (fun z => hb (by simp [z])) (fun z => hb (by simp [z])) q)) hf (Nat.le_refl _) new
    refine ⟨.ref s.heap.objs.size, _, I1, rfl, ⟨_, x, rfl, I.hok.fresh (Nat.le_refl _), rfl, fun ys hy => by rw [I.tuple_inj hy hq]; exact hx⟩, ⟨⟨u, ?_⟩, hit'.at fun o q => (sb.2 it (Ne.symm hne)).trans q, hne, hea⟩, fun b hb => ?_⟩
    · have e1 : ((i + 1 : Nat) : Int) = (i : Int) + 1 := by omega
      rw [e1]; exact he'
    · have hb' : b < s.heap.objs.size := by
        have e' : b = e ∨ b = it := by simpa using hb
        rcases e' with z | z
        · rw [z]; exact hel
        · rw [z]; exact hil
      rw [upd_ne (Nat.ne_of_lt hb')]
      exact (hf b hb).1
  done := by
    intro X hP hw hK hc i pins s σ H E I hf st hg
    subst hP hw hK
    obtain ⟨⟨old, he⟩, hit, hne, hea⟩ := st
    obtain ⟨xs, hq, hx⟩ := hg
    obtain ⟨its, rv, p, hz⟩ := I.tuple hq
    obtain ⟨f0, f1, f2, f3, f4, f5⟩ := hf it (by simp)
    have hl := rv.length
    have hT : s.TypeIs (.ref e) "enumerate" := ⟨_, he, rfl⟩
    unfold pyNext
    refine wpAny_bind (wpAny_attempt (wpAny_callSpecial?_slot (name := Str.ofString "__next__") hT F.slot_enumerate_next
      (wpAny_call_entry F.slot_enumerate_next hT F.entry_enumerate_next ?_ (F.args_enumerate_next_1 _))))
    show wpAny _ _ (field (.ref e) 2 >>= _) _ _ _
    refine wpAny_bind (wpAny_field he rfl (x := .ref it) rfl ?_)
    refine wpAny_bind (RZ.nextOf_tuple_end (A := X.A.in1) (show X.A.in1.handled = none from I.ok.hd hc) hit (show s.heap.IsTuple a its.toArray from p) (by simp; omega) fun h' x eb hx' => ?_)
    obtain ⟨o, ho, hc⟩ := hx'
    refine wpAny_bind (wpAny_isInstance (T := "StopIteration") (b := true) ⟨o, ho, hc⟩ isSubtype_stop ?_)
    exact wpAny_pure ⟨rfl, I.turned (t' := s.toks) (fun b o hb q => eb b o hb q) f0 f1 f3 f4 f5⟩
  self := fun A i s Q E st h => let ⟨⟨_, he⟩, _⟩ := st; wpAny_pyIter_enum he h
def iEnumA (K : PySem.W.Frag) (ta : TA) : TI := fun σ H R => ta σ H fun vs H1 => ∃ a xs, vs = [.ref a] ∧ ((SqL K H1 a xs ∧ R (Ite K a) H1) ∨ (SqT K H1 a xs ∧ R (IteT K a) H1))
theorem pi_enumA {X : Cx} {e : Expr} {ta : TA} {p pos tpos : Pos} {elts : List Expr} {kk : Nat} (hg : Gl X "enumerate") (hm : X.mg "enumerate" = none) (ha : PA X [e] ta) (hs : starEach [e] X.env = [(false, eval e X.env)] := by rfl) :
    PI X (.Tuple elts kk tpos) (.Call (.Name "enumerate" p) [e] [] pos) (iEnumA X.K ta) := by
  refine ⟨fun pins s σ H R I h => ?_⟩
  refine Call_ (ld_blt I hg hm boot_enumerate (PyProof.Rows.callWith_type1 (thn (ha.run pos pins s σ H _ I h) fun us s1 ⟨vs, H1, I1, r1, q1⟩ => ?_) hs rfl))
  obtain ⟨a, xs, ex, q1⟩ := q1
  subst ex
  cases r1 with
  | cons r rr =>
    cases rr
    cases r
    have fin : ∀ b ∈ [s1.heap.objs.size + 1, s1.heap.objs.size], FpOk X pins H1 b := fun b hb => by
      have e' : b = s1.heap.objs.size + 1 ∨ b = s1.heap.objs.size := by simpa using hb
      have hle : s1.heap.objs.size ≤ b := by
        rcases e' with z | z
        · rw [z]; exact Nat.le_add_right _ _
        · rw [z]; exact Nat.le_refl _
      exact I1.fpOk hle (I1.hok.fresh hle)
    rcases q1 with ⟨hq, q⟩ | ⟨hq, q⟩
    · obtain ⟨its, rv, p', hz⟩ := I1.list hq
      refine call_enumerate_list p'.isList fun h' he hit hsz hk => wpAny_pyIter_enum he ?_
      have I2 : Inv X pins σ H1 { s1 with heap := h' } := I1.kept (t' := s1.toks) hk
      exact ⟨s1.heap.objs.size + 1, [s1.heap.objs.size + 1, s1.heap.objs.size], _, _, H1, rfl, I2, turn_enum a (s1.heap.objs.size + 1) s1.heap.objs.size, ⟨⟨.none, he⟩, hit, Nat.succ_ne_self _⟩, fin, q⟩
    · obtain ⟨its, rv, p', hz⟩ := I1.tuple hq
      obtain ⟨o1, ho1, _⟩ := id p'
      have la : a < s1.heap.objs.size := Heap.lt_size ho1
      refine call_enumerate_tuple (show s1.heap.IsTuple a its.toArray from p') fun h' he hit hsz hk => wpAny_pyIter_enum he ?_
      have I2 : Inv X pins σ H1 { s1 with heap := h' } := I1.kept (t' := s1.toks) hk
      exact ⟨s1.heap.objs.size + 1, [s1.heap.objs.size + 1, s1.heap.objs.size], _, _, H1, rfl, I2, turn_enumT a (s1.heap.objs.size + 1) s1.heap.objs.size (Nat.ne_of_lt la), ⟨⟨.none, he⟩, hit, Nat.succ_ne_self _, Nat.ne_of_gt (Nat.lt_succ_of_lt la)⟩, fin, q⟩
end Zp

set_option Elab.async false
set_option linter.all false
set_option autoImplicit false
set_option maxRecDepth 100000
set_option maxHeartbeats 4000000
namespace Zp
open PySem PySem.Spec PyProof.Rows L2
/-! ### dicts, plain -/
abbrev Dic := List (PyData × PyData)
def bvD : PyData → Bool
  | .int _ => true
  | .str _ => true
  | _ => false
def tpD : PyData → Bool
  | .tuple _ => true
  | _ => false
def okK (l : Dic) (d : PyData) : Bool := match nkD d with
  | none => false
  | some k => decide (k.depth ≤ 8) && ((bvD d && l.all fun p => bvD p.1) || (tpD d && l.all fun p => tpD p.1))
def findD (l : Dic) (d : PyData) : Option PyData := (l.find? fun p => decide (nkD p.1 = nkD d)).map (·.2)
def putD (l : Dic) (d x : PyData) : Dic := if (l.any fun p => decide (nkD p.1 = nkD d)) = true then l.map (fun p => if nkD p.1 = nkD d then (p.1, x) else p) else l ++ [(d, x)]
theorem bv_data {k : NestedKey} : bvD k.data = byVal k := by cases k <;> rfl
theorem tp_data {k : NestedKey} : tpD k.data = isTp k := by cases k <;> rfl
section
variable {G : Gx} {H : Hp} {as : As} {l : Dic} {es : Array DictEntry} {kvs : List (NestedKey × V)} {d : PyData} {k : NestedKey}
theorem it_all {f : PyData → Bool} {g : NestedKey → Bool} (hfg : ∀ k : NestedKey, f k.data = g k) : ∀ {l : Dic} {kvs : List (NestedKey × V)}, Paired (fun (p : PyData × PyData) (q : NestedKey × V) => p.1 = q.1.data ∧ Dq G.K H as q.2 p.2) l kvs → (l.all fun p => f p.1) = true → ∀ q ∈ kvs, g q.1 = true := by
  intro l kvs h
  induction h with
  | nil => intro _ q hq; simp at hq
  | cons a b ih =>
    intro e q hq
    rw [List.all_cons, Bool.and_eq_true] at e
    rcases List.mem_cons.mp hq with z | z
    · rw [z, ← hfg, ← a.1]; exact e.1
    · exact ih e.2 q z
theorem ok_cls (h : DicOk G H as l es kvs) (e : okK l d = true) : ∃ k, nkD d = some k ∧ k.depth ≤ 8 ∧ Cls k kvs := by
  unfold okK at e
  cases hk : nkD d with
  | none => rw [hk] at e; cases e
  | some k =>
    rw [hk] at e
    have hd := nkD_data hk
    simp only [Bool.and_eq_true, decide_eq_true_eq, Bool.or_eq_true] at e
    refine ⟨k, rfl, e.1, ?_⟩
    rcases e.2 with ⟨a, b⟩ | ⟨a, b⟩
    · exact .inl ⟨by rw [← bv_data, hd]; exact a, it_all (fun k => bv_data) h.it b⟩
    · exact .inr ⟨by rw [← tp_data, hd]; exact a, it_all (fun k => tp_data) h.it b⟩
theorem find_val (hk : nkD d = some k) : ∀ {l : Dic} {kvs : List (NestedKey × V)}, Paired (fun (p : PyData × PyData) (q : NestedKey × V) => p.1 = q.1.data ∧ Dq G.K H as q.2 p.2) l kvs →
    match findD l d, valV kvs k with
    | some x, some v => Dq G.K H as v x
    | none, none => True
    | _, _ => False := by
  intro l kvs h
  induction h with
  | nil => exact True.intro
  | @cons p q ps qs a b ih =>
    have e1 : nkD p.1 = some q.1 := by rw [a.1]; exact nkD_of _
    by_cases e : q.1 = k
    · have f1 : findD (p :: ps) d = some p.2 := by unfold findD; rw [List.find?_cons, e1, hk, e]; simp
      rw [f1, valV_pos e]; exact a.2
    · have f1 : findD (p :: ps) d = findD ps d := by
        unfold findD; rw [List.find?_cons, e1, hk]
        rw [decide_eq_false fun z => e (Option.some.inj z)]
      rw [f1, valV_neg e]; exact ih
theorem put_it {x : PyData} {v : V} (hk : nkD d = some k) (q : Dq G.K H as v x) {l : Dic} {kvs : List (NestedKey × V)} (h : Paired (fun (p : PyData × PyData) (q : NestedKey × V) => p.1 = q.1.data ∧ Dq G.K H as q.2 p.2) l kvs) :
    Paired (fun (p : PyData × PyData) (q : NestedKey × V) => p.1 = q.1.data ∧ Dq G.K H as q.2 p.2) (putD l d x) (putK kvs k v) := by
  have ea : (l.any fun p => decide (nkD p.1 = nkD d)) = kvs.any fun kv => decide (kv.1 = k) := by
    induction h with
    | nil => rfl
    | @cons p q ps qs a b ih =>
      rw [List.any_cons, List.any_cons, ih]
      congr 1
      have e1 : nkD p.1 = some q.1 := by rw [a.1]; exact nkD_of _
      rw [e1, hk]
      by_cases e : q.1 = k
      · rw [e]; simp
      · rw [decide_eq_false e, decide_eq_false fun z => e (Option.some.inj z)]
  unfold putD putK
  rw [ea]
  by_cases z : (kvs.any fun kv => decide (kv.1 = k)) = true
  · rw [if_pos z, if_pos z]
    clear ea z
    induction h with
    | nil => exact .nil
    | @cons p r ps qs a b ih =>
      rw [List.map_cons, List.map_cons]
      refine .cons ?_ ih
      have e1 : nkD p.1 = some r.1 := by rw [a.1]; exact nkD_of _
      by_cases e : r.1 = k
      · rw [if_pos e, if_pos (by rw [e1, hk, e])]; exact ⟨a.1, q⟩
      · rw [if_neg e, if_neg (by rw [e1, hk]; exact fun z => e (Option.some.inj z))]; exact a
  · rw [if_neg z, if_neg z]
    exact Paired.snoc h ⟨(nkD_data hk).symm, q⟩
theorem it_len {l : Dic} {kvs : List (NestedKey × V)} (h : Paired (fun (p : PyData × PyData) (q : NestedKey × V) => p.1 = q.1.data ∧ Dq G.K H as q.2 p.2) l kvs) : l.length = kvs.length := Paired.length h
theorem lk_rd {a : Addr} {f : Bool} {u : HO} (h : LkOk H a f u) : Rd H a u := by
  unfold LkOk at h
  cases f with
  | true => rw [if_pos rfl] at h; exact .inr h
  | false => rw [if_neg Bool.false_ne_true] at h; exact .inl h
end
/-- reading a dict -/
theorem dic_get {G : Gx} {H : Hp} {as : As} {st : List Cell} {n : Nat} {a : Addr} {f : Bool} {l : Dic} {d : PyData} {y : V} (rs : Rs G as st H) (ea : as.m[n]? = some a) (es : st[n]? = some (.dic f l)) (ok : okK l d = true) (q : Dq G.K H as y d) :
    ∃ o, NGet G.K G.w H a y o ∧ match findD l d, o with
      | some x, some v => Dq G.K H as v x
      | none, none => True
      | _, _ => False := by
  obtain ⟨es', ep, kvs, e, hd⟩ := rs.cell n a _ ea es
  obtain ⟨k, hk, dk, c⟩ := ok_cls hd ok
  exact ⟨valV kvs k, ⟨kvs, es', ep, k, lk_rd e, hd.lie, NKv.of q hk, dk, c, rfl⟩, find_val hk hd.it⟩
/-- writing a dict -/
theorem dic_put {G : Gx} {H : Hp} {as : As} {st : List Cell} {n : Nat} {a : Addr} {l : Dic} {d x : PyData} {y v : V} {R : Hp → Prop} (rs : Rs G as st H) (ea : as.m[n]? = some a) (es : st[n]? = some (.dic false l)) (ok : okK l d = true) (hl : l.length < lim) (q : Dq G.K H as y d) (qv : Dq G.K H as v x)
    (h : ∀ H', Gr H as H' as → Rs G as (st.set n (.dic false (putD l d x))) H' → R H') : NPut G.K G.w H a y v R := by
  obtain ⟨es', ep, kvs, e, hd⟩ := rs.cell n a _ ea es
  obtain ⟨k, hk, dk, c⟩ := ok_cls hd ok
  unfold LkOk at e
  rw [if_neg Bool.false_ne_true] at e
  have nf : ∃ u, H a = some u ∧ ¬ Fixd u := ⟨_, e, id⟩
  refine ⟨kvs, es', ep, k, e, hd.lie, NKv.of q hk, dk, c, by rw [← it_len hd.it, ← lim_eq]; exact hl, fun es2 ep2 hd2 => ?_⟩
  have g := Gr.mut (o := rawO a es2 ep2) rs (List.mem_of_getElem? ea) nf
  refine h _ g (rs.mut ea nf ⟨es2, ep2, putK kvs k v, ?_, hd2, ?_⟩)
  · unfold LkOk; rw [if_neg Bool.false_ne_true]; exact upd_same
  · exact Paired.mapP (put_it hk qv hd.it) fun p q ⟨e, r⟩ => ⟨e, r.gr g⟩
end Zp

set_option Elab.async false
set_option linter.all false
set_option autoImplicit false
set_option maxRecDepth 100000
set_option maxHeartbeats 4000000
namespace Zp
open PySem PySem.Spec PyProof.Rows L2
/-! ### a dict is walked -/
def ItdN (d : Addr) (od : Obj) (es : Array DictEntry) (ep : Nat) : It :=
  ⟨fun i H => H d = some (.frz od (rawO d es ep)) ∧ ∃ (h : i < es.size) (x : V), RelV x es[i].key, fun i H x H' => H' = H ∧ ∃ h : i < es.size, RelV x es[i].key, fun i H => H d = some (.frz od (rawO d es ep)) ∧ es.size ≤ i⟩
theorem turn_keysN {P : Program} {w : World} {K : PySem.W.Frag} {tg : Expr} (it d : Addr) (od : Obj) (es : Array DictEntry) (ep : Nat) : Turn P w K tg (ItdN d od es ep) [it] it (fun i h => h.IsKeyIter it d i es.size ep) where
  mem := by simp
  obj := fun i h st b hb => by
    rw [List.mem_singleton.mp hb]
    obtain ⟨oi, e, _, dd⟩ := st
    exact ⟨oi, e, fun v z => by rw [dd] at z; cases z⟩
  keep := fun i h h' st k => st.at fun oi e => k it (List.mem_singleton_self it) oi e
  item := by
    intro X hP hw hK hc i pins s σ H E I hf st ⟨hd, hi, x, rx⟩
    subst hP hw hK
    obtain ⟨f0, f1, f2, f3, f4, f5⟩ := hf it (List.mem_singleton_self it)
    obtain ⟨hr, _, _⟩ := raw_at I (.inr ⟨od, hd⟩)
    refine wpAny_pyNext_keys_item_raw st hr hi fun h' st' sb => ?_
    have I1 : L2.Inv X pins σ H { s with heap := h' } := I.turned (t' := s.toks) (fun b ob hb e => (sb.2 b hb).trans e) f0 f1 f3 f4 f5
    obtain ⟨oi, e, c, dd⟩ := id st'
    exact ⟨es[i].key, rfl, go_of (s := { s with heap := h' }) e c dd (by decide) ⟨x, H, I1, rx, ⟨rfl, hi, rx⟩, st', fun b hb => (hf b hb).1⟩⟩
  done := by
    intro X hP hw hK hc i pins s σ H E I hf st ⟨hd, hi⟩
    subst hP hw hK
    obtain ⟨f0, f1, f2, f3, f4, f5⟩ := hf it (List.mem_singleton_self it)
    obtain ⟨hr, _, _⟩ := raw_at I (.inr ⟨od, hd⟩)
    exact wpAny_pyNext_keys_end_raw (I.ok.hd hc) st hr hi fun h' eb => ⟨rfl, I.turned (t' := s.toks) (fun b ob hb e => eb b ob hb e) f0 f1 f3 f4 f5⟩
  self := fun A i s Q E st h => wpAny_pyIter_keyiter st h
def iKeysN (td : TE) : TI := fun σ H R => td σ H fun x H1 => ∃ d es ep, x = .ref d ∧ ((∃ od, H1 d = some (.frz od (rawO d es ep)) ∧ R (ItdN d od es ep) H1) ∨ (H1 d = some (rawO d es ep) ∧ ∀ od, R (ItdN d od es ep) (upd H1 d (.frz od (rawO d es ep)))))
theorem pi_keysN {X : Cx} {tg e : Expr} {td : TE} (he : PE X e td) : PI X tg e (iKeysN td) := by
  refine ⟨fun pins s σ H R I h => ?_⟩
  refine thn (he.run pins s σ H _ I h) fun u s1 ⟨x, H1, I1, rx, d, es, ep, ex, q⟩ => ?_
  subst ex
  obtain rfl : u = Value.ref d := rx
  have go : ∀ {od : Obj} {H2 : Hp}, L2.Inv X pins σ H2 s1 → H2 d = some (.frz od (rawO d es ep)) → R (ItdN d od es ep) H2 → wpAny (model X.prog X.w) X.A (pyIter (.ref d)) (PIE X pins σ tg R) X.xe s1 := fun {od H2} I2 hd q => by
    obtain ⟨hr, hs, _⟩ := raw_at I2 (.inr ⟨od, hd⟩)
    exact wpAny_pyIter_dict_raw hs hr (pi_one (tk := s1.toks) I2 _ (turn_keysN _ d od es ep) ⟨_, Heap.get?_push_size _ rfl, rfl, rfl⟩ q)
  rcases q with ⟨od, hd, q⟩ | ⟨hd, q⟩
  · exact go I1 hd q
  · obtain ⟨od, I2⟩ := I1.lock hd True.intro
    exact go I2 upd_same (q od)
/-- a key is data -/
theorem NKv.dq {G : Gx} {as : As} {st : List Cell} {H : Hp} (rs : Rs G as st H) : ∀ {k : NestedKey} {v : V}, NKv G.K H k v → Dq G.K H as v k.data := by
  have main : (∀ (k : NestedKey) (v : V), NKv G.K H k v → Dq G.K H as v k.data) ∧ ∀ (ks : List NestedKey) (vs : List V), NKvs G.K H ks vs → DqAll G.K H as vs (NestedKey.datas ks) := by
    have tupOk : ∀ a xs, SqT G.K H a xs → ST G.K H as a xs := fun a xs h => by
      rcases h with h | h
      · refine .inl ⟨?_, h⟩
        rcases h with h | ⟨o, h⟩
        · exact rs.ne h fun z => by rcases z with ⟨l, e⟩ | ⟨es, ep, e⟩ | ⟨od, v, e⟩ | ⟨C, dx, fs, e⟩ <;> cases e
        · intro bad
          rcases bad with z | z
          · obtain ⟨n, hn⟩ := List.mem_iff_getElem?.mp z
            have hl : n < st.length := by rw [← rs.len]; exact (List.getElem?_eq_some_iff.mp hn).1
            have c := rs.cell n a _ hn (List.getElem?_eq_getElem hl)
            cases hc : st[n] with
            | lst l => rw [hc] at c; obtain ⟨vs, e, _⟩ := c; rw [h] at e; cases e
            | dic f l =>
              rw [hc] at c
              obtain ⟨es, ep, kvs, e, _⟩ := c
              unfold LkOk at e
              cases f with
              | true => rw [if_pos rfl] at e; obtain ⟨od, e⟩ := e; rw [h] at e; cases e
              | false => rw [if_neg Bool.false_ne_true] at e; rw [h] at e; cases e
            | obj cn fs => rw [hc] at c; obtain ⟨C, dx, vfs, _, _, e, _⟩ := c; rw [h] at e; cases e
          · obtain ⟨_, u, e, hu⟩ := rs.hd a z
            rw [h] at e; cases e
            rcases hu with ⟨_, e⟩ | ⟨_, _, e⟩ | ⟨_, _, _, e⟩ <;> cases e
      · exact .inr h
    constructor
    · intro k v h
      exact NKv.rec (motive_1 := fun k v _ => Dq G.K H as v k.data) (motive_2 := fun ks vs _ => DqAll G.K H as vs (NestedKey.datas ks)) .non (fun i => .int i) (fun x => .str x) (fun {a xs ks} sq _ ih => .tup (tupOk a xs sq) ih) .nil (fun _ _ a b => .cons a b) h
    · intro k v h
      exact NKvs.rec (motive_1 := fun k v _ => Dq G.K H as v k.data) (motive_2 := fun ks vs _ => DqAll G.K H as vs (NestedKey.datas ks)) .non (fun i => .int i) (fun x => .str x) (fun {a xs ks} sq _ ih => .tup (tupOk a xs sq) ih) .nil (fun _ _ a b => .cons a b) h
  exact fun {k v} h => main.1 k v h
/-- the keys of a dict, one by one -/
theorem dic_key {G : Gx} {H : Hp} {as : As} {st : List Cell} {l : Dic} {es : Array DictEntry} {kvs : List (NestedKey × V)} {i : Nat} {p : PyData × PyData} (rs : Rs G as st H) (h : DicOk G H as l es kvs) (e : l[i]? = some p) : ∃ (hi : i < es.size) (x : V), RelV x es[i].key ∧ Dq G.K H as x p.1 := by
  have go : ∀ {l : Dic} {kvs : List (NestedKey × V)} {ls : List DictEntry} {i : Nat}, Paired (fun (p : PyData × PyData) (q : NestedKey × V) => p.1 = q.1.data ∧ Dq G.K H as q.2 p.2) l kvs → Paired (EntOk G.K G.w H) kvs ls → l[i]? = some p → ∃ en x, ls[i]? = some en ∧ RelV x en.key ∧ Dq G.K H as x p.1 := by
    intro l kvs ls i h1
    induction h1 generalizing ls i with
    | nil => intro _ e; simp at e
    | @cons q r qs rs' a b ih =>
      intro h2 e
      cases h2 with
      | @cons _ en _ ens c d =>
        cases i with
        | zero =>
          simp only [List.getElem?_cons_zero, Option.some.injEq] at e
          subst e
          obtain ⟨kv, r1, r2⟩ := c.key
          exact ⟨en, kv, rfl, r1, by rw [a.1]; exact NKv.dq rs r2⟩
        | succ i =>
          obtain ⟨en', x, h1, h2, h3⟩ := ih d (by simpa using e)
          exact ⟨en', x, by simpa using h1, h2, h3⟩
  obtain ⟨en, x, h1, h2, h3⟩ := go h.it h.lie.ents e
  rw [Array.getElem?_toList] at h1
  obtain ⟨hi, e2⟩ := Array.getElem?_eq_some_iff.mp h1
  exact ⟨hi, x, by rw [e2]; exact h2, h3⟩
/-- locking keeps all -/
theorem Gr.lock {G : Gx} {as : As} {st : List Cell} {H : Hp} {n : Nat} {a : Addr} {l : Dic} {es : Array DictEntry} {ep : Nat} {kvs : List (NestedKey × V)} {od : Obj} (rs : Rs G as st H) (ea : as.m[n]? = some a) (e : H a = some (rawO a es ep)) (hd : DicOk G H as l es kvs) :
    Gr H as (upd H a (.frz od (rawO a es ep))) as ∧ Rs G as (st.set n (.dic true l)) (upd H a (.frz od (rawO a es ep))) ∧ DicOk G (upd H a (.frz od (rawO a es ep))) as l es kvs := by
  have nf : ∃ u, H a = some u ∧ ¬ Fixd u := ⟨_, e, id⟩
  have g := Gr.mut (o := .frz od (rawO a es ep)) rs (List.mem_of_getElem? ea) nf
  have hd' := hd.gk g.toGk
  refine ⟨g, rs.mut ea nf ⟨es, ep, kvs, ?_, hd'⟩, hd'⟩
  unfold LkOk
  rw [if_pos rfl]
  exact ⟨od, upd_same⟩
theorem walks_dic {G : Gx} {H : Hp} {as : As} {a : Addr} {l : Dic} {es : Array DictEntry} {ep : Nat} {kvs : List (NestedKey × V)} {od : Obj} (e : H a = some (.frz od (rawO a es ep))) (hd : DicOk G H as l es kvs) : Walks G H as (l.map fun p => .dat p.1) (ItdN a od es ep) where
  go := fun as2 st2 H2 i x g rs ex => by
    rw [List.getElem?_map] at ex
    cases el : l[i]? with
    | none => rw [el] at ex; cases ex
    | some p =>
      rw [el] at ex
      cases ex
      obtain ⟨hi, v, rv, dv⟩ := dic_key rs (hd.gk g) el
      refine ⟨⟨g.fix _ _ e trivial, hi, v, rv⟩, fun y H3 ⟨e3, hi', ry⟩ => ?_⟩
      subst e3
      refine ⟨Gr.refl _ _, rs, .dat ?_⟩
      have : y = v := L2.RelV.inj ry rv
      rw [this]; exact dv
  stop := fun as2 st2 H2 g rs => ⟨g.fix _ _ e trivial, by rw [List.length_map, it_len hd.it, hd.lie.len]; exact Nat.le_refl _⟩
def iDic (f : Ev → Mo D) (ρ : Ev) : Mo Src := fun st => (f ρ st).bind fun d st1 => match d with
  | .ref n => match st1[n]? with
    | some (.dic _ l) => .ok (.items (l.map fun p => .dat p.1)) (st1.set n (.dic true l))
    | _ => .bad
  | _ => .bad
theorem set_same {α : Type} {l : List α} {n : Nat} {x : α} (h : l[n]? = some x) : l.set n x = l := by
  apply List.ext_getElem?
  intro j
  by_cases e : n = j
  · subst e; rw [List.getElem?_set_self (List.getElem?_eq_some_iff.mp h).1, h]
  · rw [List.getElem?_set_ne e]
section
variable {G : Gz} {X : Cx} {W : WX} {tg e : Expr} {f : Ev → Mo D}
theorem si_dic (h : PE X e (tE G W f)) : PI X tg e (tI G W (iDic f)) := PI.imp (pi_keysN h) fun σ H R ⟨ρ, as, st, re, rs, hp⟩ =>
  ⟨ρ, as, st, re, rs, (Post.bind hp).mono fun x H1 ⟨d, as1, st1, _, g1, rs1, ra, hp1⟩ => by
    cases ra with
    | @ref n a ea =>
      have hp1 : Post G (SrcOk G) H1 as1 (fun c d H' => W c d σ H') R (match st1[n]? with
        | some (.dic _ l) => .ok (.items (l.map fun p => .dat p.1)) (st1.set n (.dic true l))
        | _ => .bad) := hp1
      cases ec : st1[n]? with
      | none => rw [ec] at hp1; exact hp1.elim
      | some c =>
        rw [ec] at hp1
        cases c with
        | lst l => exact hp1.elim
        | obj c fs => exact hp1.elim
        | dic fr l =>
          have hp9 : Post G (SrcOk G) H1 as1 (fun c d H' => W c d σ H') R (.ok (.items (l.map fun p => .dat p.1)) (st1.set n (.dic true l))) := hp1
          clear hp1
          obtain ⟨es, ep, kvs, lk, hd⟩ := rs1.cell n a _ ea ec
          unfold LkOk at lk
          refine ⟨a, es, ep, rfl, ?_⟩
          cases fr with
          | true =>
            rw [if_pos rfl] at lk
            obtain ⟨od, lk⟩ := lk
            rw [set_same ec] at hp9
            exact .inl ⟨od, lk, hp9 as1 _ H1 (Gr.refl _ _) rs1 (walks_dic lk hd)⟩
          | false =>
            rw [if_neg Bool.false_ne_true] at lk
            refine .inr ⟨lk, fun od => ?_⟩
            obtain ⟨g2, rs2, hd2⟩ := Gr.lock (od := od) rs1 ea lk hd
            exact hp9 as1 _ _ g2 rs2 (walks_dic upd_same hd2)
    | dat _ => exact hp1.elim
    | obj _ _ _ _ _ _ => exact hp1.elim
    | tup _ _ => exact hp1.elim
    | lst _ _ => exact hp1.elim⟩
end
/-! ### o[i], i in o, o[i] = v -/
def strAt (x : Str) (k : Int) : Option Str := if x.length ≤ lim then (match atI x.cps.toList k with
  | some c => some ⟨#[c]⟩
  | none => none) else none
def getAt (o i : D) : Mo D := fun st => match o, i with
  | .tup l, .dat (.int k) => match atI l k with
    | some d => .ok d st
    | none => .bad
  | .lst l, .dat (.int k) => match atI l k with
    | some d => .ok d st
    | none => .bad
  | .dat (.tuple l), .dat (.int k) => match atI l k with
    | some d => .ok (.dat d) st
    | none => .bad
  | .dat (.list l), .dat (.int k) => match atI l k with
    | some d => .ok (.dat d) st
    | none => .bad
  | .dat (.str x), .dat (.int k) => match strAt x k with
    | some c => .ok (.dat (.str c)) st
    | none => .bad
  | .ref n, .dat d => match st[n]? with
    | some (.lst l) => match d with
      | .int k => match atI l k with
        | some d => .ok (.dat d) st
        | none => .bad
      | _ => .bad
    | some (.dic _ l) => if okK l d = true then (match findD l d with
      | some x => .ok (.dat x) st
      | none => .bad) else .bad
    | _ => .bad
  | _, _ => .bad
theorem atI_rel {α β : Type} {R : α → β → Prop} {xs : List α} {ys : List β} (hl : xs.length = ys.length) (hr : ∀ (i : Nat) (x : α), xs[i]? = some x → ∃ y, ys[i]? = some y ∧ R x y) {k : Int} {x : α} (e : atI xs k = some x) : ∃ y, atI ys k = some y ∧ R x y := by
  unfold atI at e ⊢
  rw [← hl]
  cases h : ixN xs.length k with
  | none => rw [h] at e; cases e
  | some j => rw [h] at e; exact hr j x e
def rIxA (K : PySem.W.Frag) (w : World) : R2 := fun x y H Q => rIx K x y H Q ∨ rIxN K w x y H Q
theorem ix_A {X : Cx} (hu : X.A.units + 9 < cLine) : IxR X (rIxA X.K X.w) := ix_seq.or (ix_n hu)
theorem getAt_op {G : Gx} : Op2 G (rIxA G.K G.w) getAt := by
  intro H as st x y a b E Q rs ra rb hp
  unfold getAt at hp
  split at hp
  · rename_i l k
    cases ra with
    | tup h q =>
    cases rb with
    | dat rb =>
    cases rb with
    | int =>
    split at hp
    · rename_i d e
      obtain ⟨v, ev, r⟩ := atI_rel (R := fun d v => RV G H as d v) (RVs.length q) (fun i x e => q.get e) e
      exact .inl (.inr (.inl ⟨_, _, k, v, rfl, rfl, h.sq, ev, hp as v H (Gr.refl _ _) rs r⟩))
    · exact hp.elim
  · rename_i l k
    cases ra with
    | lst h q =>
    cases rb with
    | dat rb =>
    cases rb with
    | int =>
    split at hp
    · rename_i d e
      obtain ⟨v, ev, r⟩ := atI_rel (R := fun d v => RV G H as d v) (RVs.length q) (fun i x e => q.get e) e
      exact .inl (.inl ⟨_, _, k, v, rfl, rfl, h.sq, ev, hp as v H (Gr.refl _ _) rs r⟩)
    · exact hp.elim
  · rename_i l k
    cases ra with
    | dat ra =>
    cases ra with
    | tup h q =>
    cases rb with
    | dat rb =>
    cases rb with
    | int =>
    split at hp
    · rename_i d e
      obtain ⟨v, ev, r⟩ := atI_rel (R := fun d v => Dq G.K H as v d) q.length.symm (fun i x e => q.get e) e
      exact .inl (.inr (.inl ⟨_, _, k, v, rfl, rfl, h.sq, ev, hp as v H (Gr.refl _ _) rs (.dat r)⟩))
    · exact hp.elim
  · rename_i l k
    cases ra with
    | dat ra =>
    cases ra with
    | lst h q =>
    cases rb with
    | dat rb =>
    cases rb with
    | int =>
    split at hp
    · rename_i d e
      obtain ⟨v, ev, r⟩ := atI_rel (R := fun d v => Dq G.K H as v d) q.length.symm (fun i x e => q.get e) e
      exact .inl (.inl ⟨_, _, k, v, rfl, rfl, h.sq, ev, hp as v H (Gr.refl _ _) rs (.dat r)⟩)
    · exact hp.elim
  · rename_i z k
    cases ra with
    | dat ra =>
    cases ra with
    | str =>
    cases rb with
    | dat rb =>
    cases rb with
    | int =>
    unfold strAt at hp
    by_cases hz : z.length ≤ lim
    · rw [if_pos hz] at hp
      cases e : atI z.cps.toList k with
      | none => rw [e] at hp; exact hp.elim
      | some c =>
        rw [e] at hp
        exact .inl (.inr (.inr ⟨z, k, c, rfl, rfl, by rw [← lim_eq]; exact hz, e, hp as _ H (Gr.refl _ _) rs (.dat (.str _))⟩))
    · rw [if_neg hz] at hp; exact hp.elim
  · rename_i n d
    cases ra with
    | @ref _ a ea =>
    cases rb with
    | dat rb =>
    split at hp
    · rename_i l el
      obtain ⟨vs, h1, h2⟩ := rs.cell n a _ ea el
      split at hp
      · rename_i k
        cases rb with
        | int =>
        split at hp
        · rename_i d e
          obtain ⟨v, ev, r⟩ := atI_rel (R := fun d v => Dq G.K H as v d) h2.length.symm (fun i x e => h2.get e) e
          exact .inl (.inl ⟨a, vs, k, v, rfl, rfl, .inl (.inl h1), ev, hp as v H (Gr.refl _ _) rs (.dat r)⟩)
        · exact hp.elim
      · exact hp.elim
    · rename_i f l el
      split at hp
      · rename_i ok
        obtain ⟨o, hg, hm⟩ := dic_get rs ea el ok rb
        cases hf : findD l d with
        | none => rw [hf] at hp; exact hp.elim
        | some z =>
          rw [hf] at hp hm
          cases o with
          | none => exact hm.elim
          | some v => exact .inr ⟨a, v, rfl, hg, hp as v H (Gr.refl _ _) rs (.dat hm)⟩
      · exact hp.elim
    · exact hp.elim
  · exact hp.elim
/-- i in o -/
def inRef (neg : Bool) (i : D) (n : Nat) : Mo D := fun st => match st[n]? with
  | some (.dic _ l) => match i with
    | .dat d => if okK l d = true then .ok (.dat (.bool (if neg then !(findD l d).isSome else (findD l d).isSome))) st else .bad
    | _ => .bad
  | _ => liftD (fun a b => (cmpD (if neg then .NotIn else .In) a b).map .bool) i (.ref n) st
def inAt (neg : Bool) (i o : D) : Mo D := fun st => match o with
  | .ref n => inRef neg i n st
  | o => liftD (fun a b => (cmpD (if neg then .NotIn else .In) a b).map .bool) i o st
def rInA (K : PySem.W.Frag) (w : World) (neg : Bool) : R2 := fun x y H Q => rCmp K (if neg then .NotIn else .In) x y H Q ∨ rInN K w neg x y H Q
theorem inAt_op {G : Gx} {neg : Bool} : Op2 G (rInA G.K G.w neg) (inAt neg) := by
  intro H as st x y i o E Q rs ri ro hp
  have old : Post G (RV G) H as E Q (liftD (fun a b => (cmpD (if neg then .NotIn else .In) a b).map .bool) i o st) → rInA G.K G.w neg x y H Q := fun hp => .inl (cmp_op _ H as st x y i o E Q rs ri ro hp)
  cases o with
  | ref n =>
    replace hp : Post G (RV G) H as E Q (inRef neg i n st) := hp
    unfold inRef at hp
    split at hp
    · rename_i f l el
      cases i with
      | dat d =>
        replace hp : Post G (RV G) H as E Q (if okK l d = true then .ok (.dat (.bool (if neg then !(findD l d).isSome else (findD l d).isSome))) st else .bad) := hp
        split at hp
        · rename_i ok
          cases ro with
          | @ref _ a ea =>
          cases ri with
          | dat ri =>
          obtain ⟨ov, hg, hm⟩ := dic_get rs ea el ok ri
          refine .inr ⟨a, ov, rfl, hg, ?_⟩
          have e : ov.isSome = (findD l d).isSome := by
            cases hf : findD l d with
            | none => rw [hf] at hm; cases ov with
              | none => rfl
              | some _ => exact hm.elim
            | some z => rw [hf] at hm; cases ov with
              | none => exact hm.elim
              | some _ => rfl
          rw [e]
          exact hp as _ H (Gr.refl _ _) rs (.dat (.bl _))
        · exact hp.elim
      | ref _ => exact hp.elim
      | obj _ _ => exact hp.elim
      | tup _ => exact hp.elim
      | lst _ => exact hp.elim
    · exact old hp
  | dat d => exact old hp
  | obj c fs => exact old hp
  | tup l => exact old hp
  | lst l => exact old hp
/-- o[i] = v -/
def putAtA (o i v : D) : Mo Unit := fun st => match o, i, v with
  | .ref n, .dat d, .dat x => match st[n]? with
    | some (.lst l) => match d with
      | .int k => match ixN l.length k with
        | some j => .ok () (st.set n (.lst (l.set j x)))
        | none => .bad
      | _ => .bad
    | some (.dic false l) => if okK l d = true ∧ l.length < lim then .ok () (st.set n (.dic false (putD l d x))) else .bad
    | _ => .bad
  | _, _, _ => .bad
def rSetA (K : PySem.W.Frag) (w : World) : TSet := fun o i v H Q => rSetL o i v H Q ∨ rSetN K w o i v H Q
theorem putAtA_ok {G : Gx} {H : Hp} {as : As} {st : List Cell} {o i v : D} {ov iv vv : V} {β γ : Type} {R : Hp → As → β → γ → Prop} {E : XK} {Q : γ → Hp → Prop} {Z : Hp → Prop} {k : Unit → Mo β} (rs : Rs G as st H) (ro : RV G H as o ov) (ri : RV G H as i iv) (rv : RV G H as v vv)
    (h : Post G R H as E Q ((putAtA o i v st).bind k)) (z : ∀ st' H', Gr H as H' as → Rs G as st' H' → Post G R H as E Q (k () st') → Z H') : rSetA G.K G.w ov iv vv H Z := by
  unfold putAtA at h
  split at h
  · rename_i n d x
    cases ro with
    | @ref _ a ea =>
    cases ri with
    | dat ri =>
    cases rv with
    | dat rv =>
    split at h
    · rename_i l el
      obtain ⟨vs, h1, h2⟩ := rs.cell _ _ _ ea el
      have nf : ∃ u, H a = some u ∧ ¬ Fixd u := ⟨_, h1, id⟩
      split at h
      · rename_i k
        cases ri with
        | int =>
        split at h
        · rename_i j ej
          have g := Gr.mut (o := .lst (vs.set j vv)) rs (List.mem_of_getElem? ea) nf
          exact .inl ⟨a, vs, k, j, rfl, rfl, h1, by rw [h2.length]; exact ej, z _ _ g (rs.mut (c := .lst (l.set j x)) ea nf ⟨_, upd_same, (h2.set rv j).gr g⟩) h⟩
        · exact h.elim
      · exact h.elim
    · rename_i l el
      split at h
      · rename_i ok
        exact .inr ⟨a, rfl, dic_put rs ea el ok.1 ok.2 ri rv fun H' g rs' => z _ H' g rs' h⟩
      · exact h.elim
    · exact h.elim
  · exact h.elim
def gSub (fo fi : Ev → Mo D) : Tg := fun v ρ st => (fo ρ st).bind fun o st1 => (fi ρ st1).bind fun i st2 => (putAtA o i v st2).bind fun _ st3 => .ok ρ st3
def cSub (f g : Ev → Mo D) : Ev → Mo D := cOp2 getAt f g
def cIn (neg : Bool) (f g : Ev → Mo D) : Ev → Mo D := cOp2 (inAt neg) f g
def cNewD (_ : Ev) : Mo D := fun st => .ok (.ref st.length) (st ++ [.dic false []])
section
variable {G : Gz} {X : Cx} {W : WX} {k : Nat} {pos : Pos} {f g fo fi : Ev → Mo D} {a b o i : Expr}
theorem se_sub2 (C : Cz G X W k) (ha : PE X a (tE G W f)) (hb : PE X b (tE G W g)) (hs : PlainIx b := by intro _ _; rfl) : PE X (.Subscript a b pos) (tE G W (cSub f g)) := by
  have h := getAt_op (G := G.toGx)
  rw [← C.fit.K, ← C.fit.w] at h
  exact PE.imp (pe_ix (ix_A (by have := C.hu; omega)) ha hb hs) (op2_imp h)
theorem se_in (C : Cz G X W k) (ha : PE X a (tE G W f)) (hb : PE X b (tE G W g)) (hm : behindInMarks .In b = false := by rfl) : PE X (.Compare a [.In] [b] pos) (tE G W (cIn false f g)) := by
  have h := inAt_op (G := G.toGx) (neg := false)
  rw [← C.fit.K, ← C.fit.w] at h
  exact se_cmp ((op_cmpA C.hu .In).or (op_inN (by have := C.hu; omega))) h ha hb hm
theorem se_nin (C : Cz G X W k) (ha : PE X a (tE G W f)) (hb : PE X b (tE G W g)) (hm : behindInMarks .NotIn b = false := by rfl) : PE X (.Compare a [.NotIn] [b] pos) (tE G W (cIn true f g)) := by
  have h := inAt_op (G := G.toGx) (neg := true)
  rw [← C.fit.K, ← C.fit.w] at h
  exact se_cmp ((op_cmpA C.hu .NotIn).or (op_ninN (by have := C.hu; omega))) h ha hb hm
theorem sg_sub2 (C : Cz G X W k) (ho : PE X o (tE G (fun c d _ H => ∀ σ, W c d σ H) fo)) (hi : PE X i (tE G (fun c d _ H => ∀ σ, W c d σ H) fi))
    (ha : ∀ v, assign (.Subscript o i pos) X.env v = (do
      let ov ← holding [v] (eval o X.env)
      let iv ← holding [v, ov] (eval i X.env)
      standAt pos
      holding [v, ov, iv] (setItem ov iv v)
      release [v, ov, iv] []) := by intro _; rfl) : PG X (.Subscript o i pos) (tG G W (gSub fo fi)) := by
  have eK := C.fit.K
  have eW := C.fit.w
  refine PG.imp (pg_sub ho hi (PSet.or set_list (set_n (by have := C.hu; omega))) ha) ?_
  rw [eK, eW]
  intro v σ H Q ⟨ρ, d, as, st, re, rd, rs, hp⟩
  exact ⟨ρ, as, st, re, rs, (Post.bind hp).mono fun x H1 ⟨ov, as1, st1, _, g1, rs1, ra, hp1⟩ => ⟨ρ, as1, st1, re.gr g1, rs1, (Post.bind hp1).mono fun y H2 ⟨iv, as2, st2, _, g2, rs2, rb, hp2⟩ =>
    putAtA_ok rs2 (ra.gr g2) rb ((rd.gr g1).gr g2) hp2 fun st3 H3 g3 rs3 hp3 => hp3 as2 σ _ g3 rs3 (((re.gr g1).gr g2).gr g3)⟩⟩
theorem se_newD : PE X (.Dict [] [] pos) (tE G W cNewD) := PE.imp pe_newN fun σ H Q ⟨ρ, as, st, re, rs, hp⟩ p hn => by
  refine hp (as.add p) (.ref p) _ (Gr.add rs hn) (rs.add hn ⟨#[], 0, [], ?_, ⟨.nil, List.nodup_nil, fun p hp => by simp at hp⟩, .nil⟩) (.ref ?_)
  · unfold LkOk; rw [if_neg Bool.false_ne_true]; exact upd_same
  · show (as.m ++ [p])[_]? = _
    rw [← rs.len]; simp
end
end Zp

set_option Elab.async false
set_option linter.all false
set_option autoImplicit false
set_option maxRecDepth 100000
set_option maxHeartbeats 4000000
namespace Zp
open PySem PySem.Spec PyProof.Rows L2
/-! ### enumerate, zip, texts -/
def enumL : Nat → List D → List D
  | _, [] => []
  | i, x :: xs => mkTup [.dat (.int i), x] :: enumL (i + 1) xs
def zipL : List D → List D → List D
  | x :: xs, y :: ys => mkTup [x, y] :: zipL xs ys
  | _, _ => []
theorem enumL_get : ∀ (l : List D) (k i : Nat), (enumL k l)[i]? = l[i]?.map fun x => mkTup [.dat (.int ((k + i : Nat) : Int)), x]
  | [], k, i => by simp [enumL]
  | x :: xs, k, 0 => by simp [enumL]
  | x :: xs, k, i + 1 => by
    have h := enumL_get xs (k + 1) i
    have e : k + 1 + i = k + (i + 1) := by omega
    rw [e] at h
    simpa [enumL] using h
theorem enumL_len : ∀ (l : List D) (k : Nat), (enumL k l).length = l.length
  | [], _ => rfl
  | x :: xs, k => by rw [enumL, List.length_cons, List.length_cons, enumL_len xs]
theorem zipL_get : ∀ (l m : List D) (i : Nat) (z : D), (zipL l m)[i]? = some z → ∃ x y, l[i]? = some x ∧ m[i]? = some y ∧ z = mkTup [x, y]
  | [], _, i, z, e => by simp [zipL] at e
  | _ :: _, [], i, z, e => by simp [zipL] at e
  | x :: xs, y :: ys, 0, z, e => by simp [zipL] at e; exact ⟨x, y, rfl, rfl, e.symm⟩
  | x :: xs, y :: ys, i + 1, z, e => by
    obtain ⟨a, b, h1, h2, h3⟩ := zipL_get xs ys i z (by simpa [zipL] using e)
    exact ⟨a, b, by simpa using h1, by simpa using h2, h3⟩
theorem zipL_len : ∀ (l m : List D), l.length ≤ (zipL l m).length ∨ m.length ≤ (zipL l m).length
  | [], _ => .inl (Nat.zero_le _)
  | _ :: _, [] => .inr (Nat.zero_le _)
  | x :: xs, y :: ys => by
    rw [zipL, List.length_cons, List.length_cons, List.length_cons]
    rcases zipL_len xs ys with h | h <;> omega
/-- a new tuple lies -/
theorem rv_tup {G : Gx} {H : Hp} {as : As} {st : List Cell} {ds : List D} {vs : List V} {p : Addr} (rs : Rs G as st H) (q : RVs G H as ds vs) (hp : H p = none) : RV G (upd H p (.tup vs)) as (mkTup ds) (.ref p) := by
  have g := Gr.new (o := .tup vs) rs hp
  have st' : ST G.K (upd H p (.tup vs)) as p vs := .inl ⟨rs.fresh hp, .inl upd_same⟩
  unfold mkTup
  cases e : datAll ds with
  | some l =>
    rw [datAll_some e] at q
    exact .dat (.tup st' ((RVs.to_dq q).gr g))
  | none => exact .tup st' (RVs.gr g q)
/-- a list or tuple that stays -/
def frzItems : D → Option (Bool × List D)
  | .dat (.list l) => some (false, l.map .dat)
  | .dat (.tuple l) => some (true, l.map .dat)
  | .lst l => some (false, l)
  | .tup l => some (true, l)
  | _ => none
theorem frz_ok {G : Gx} {H : Hp} {as : As} {d : D} {v : V} {b : Bool} {l : List D} (r : RV G H as d v) (e : frzItems d = some (b, l)) : ∃ a xs, v = .ref a ∧ (if b = true then ST G.K H as a xs else SL G.K H as a xs) ∧ RVs G H as l xs := by
  unfold frzItems at e
  split at e
  · cases e
    cases r with | dat r => cases r with | lst h q => exact ⟨_, _, rfl, h.sl, RVs.of_dq q⟩
  · cases e
    cases r with | dat r => cases r with | tup h q => exact ⟨_, _, rfl, h, RVs.of_dq q⟩
  · cases e
    cases r with | lst h q => exact ⟨_, _, rfl, h, q⟩
  · cases e
    cases r with | tup h q => exact ⟨_, _, rfl, h, q⟩
  · cases e
def iEnumD (f : Ev → Mo (List D)) (ρ : Ev) : Mo Src := fun st => (f ρ st).bind fun ds st1 => match ds with
  | [d] => match frzItems d with
    | some (_, l) => .ok (.items (enumL 0 l)) st1
    | none => .bad
  | _ => .bad
def iZipD (f : Ev → Mo (List D)) (ρ : Ev) : Mo Src := fun st => (f ρ st).bind fun ds st1 => match ds with
  | [d, e] => match frzItems d, frzItems e with
    | some (b, l), some (c, m) => if b = c then .ok (.items (zipL l m)) st1 else .bad
    | _, _ => .bad
  | _ => .bad
def strItems (x : Str) : List D := x.cps.toList.map fun c => .dat (.str ⟨#[c]⟩)
def iStrD (f : Ev → Mo D) (ρ : Ev) : Mo Src := fun st => (f ρ st).bind fun d st1 => match d with
  | .dat (.str x) => .ok (.items (strItems x)) st1
  | _ => .bad
section
variable {G : Gx} {H : Hp} {as : As} {a b : Addr} {xs ys : List V} {l m : List D}
theorem walks_enumL (h : SL G.K H as a xs) (q : RVs G H as l xs) : Walks G H as (enumL 0 l) (Ite G.K a) where
  go := fun as2 st2 H2 i z g rs e => by
    rw [enumL_get] at e
    cases el : l[i]? with
    | none => rw [el] at e; cases e
    | some x =>
      rw [el] at e
      cases e
      obtain ⟨v, ev, r⟩ := q.get el
      have hs := (h.gk g).sq (K := G.K)
      refine ⟨⟨xs, v, hs, ev⟩, fun y H3 ⟨T, x', ey, hT, e3, hx⟩ => ?_⟩
      subst ey e3
      have := hx xs hs
      rw [ev] at this; cases this
      refine ⟨Gr.new rs hT, rs.new hT, ?_⟩
      have e0 : 0 + i = i := by omega
      rw [e0]
      exact rv_tup rs (.cons (.dat (.int _)) (.cons (r.gk g) .nil)) hT
  stop := fun as2 st2 H2 g rs => ⟨xs, (h.gk g).sq, by rw [enumL_len, q.length]; exact Nat.le_refl _⟩
theorem walks_enumT (h : ST G.K H as a xs) (q : RVs G H as l xs) : Walks G H as (enumL 0 l) (IteT G.K a) where
  go := fun as2 st2 H2 i z g rs e => by
    rw [enumL_get] at e
    cases el : l[i]? with
    | none => rw [el] at e; cases e
    | some x =>
      rw [el] at e
      cases e
      obtain ⟨v, ev, r⟩ := q.get el
      have hs := (h.gk g).sq
      refine ⟨⟨xs, v, hs, ev⟩, fun y H3 ⟨T, x', ey, hT, e3, hx⟩ => ?_⟩
      subst ey e3
      have := hx xs hs
      rw [ev] at this; cases this
      refine ⟨Gr.new rs hT, rs.new hT, ?_⟩
      have e0 : 0 + i = i := by omega
      rw [e0]
      exact rv_tup rs (.cons (.dat (.int _)) (.cons (r.gk g) .nil)) hT
  stop := fun as2 st2 H2 g rs => ⟨xs, (h.gk g).sq, by rw [enumL_len, q.length]; exact Nat.le_refl _⟩
theorem walks_zipL (h : SL G.K H as a xs) (q : RVs G H as l xs) (h' : SL G.K H as b ys) (q' : RVs G H as m ys) : Walks G H as (zipL l m) (Itz G.K a b) where
  go := fun as2 st2 H2 i z g rs e => by
    obtain ⟨x, y, e1, e2, rfl⟩ := zipL_get l m i z e
    obtain ⟨v, ev, r⟩ := q.get e1
    obtain ⟨v', ev', r'⟩ := q'.get e2
    have hs := (h.gk g).sq (K := G.K)
    have hs' := (h'.gk g).sq (K := G.K)
    refine ⟨⟨xs, ys, v, v', hs, hs', ev, ev'⟩, fun y H3 ⟨T, x1, y1, ey, hT, e3, hx, hy⟩ => ?_⟩
    subst ey e3
    have t1 := hx xs hs
    rw [ev] at t1; cases t1
    have t2 := hy ys hs'
    rw [ev'] at t2; cases t2
    exact ⟨Gr.new rs hT, rs.new hT, rv_tup rs (.cons (r.gk g) (.cons (r'.gk g) .nil)) hT⟩
  stop := fun as2 st2 H2 g rs => ⟨xs, ys, (h.gk g).sq, (h'.gk g).sq, by rw [← q.length, ← q'.length]; exact zipL_len l m⟩
theorem walks_zipT (h : ST G.K H as a xs) (q : RVs G H as l xs) (h' : ST G.K H as b ys) (q' : RVs G H as m ys) : Walks G H as (zipL l m) (RZ.ItzT G.K a b) where
  go := fun as2 st2 H2 i z g rs e => by
    obtain ⟨x, y, e1, e2, rfl⟩ := zipL_get l m i z e
    obtain ⟨v, ev, r⟩ := q.get e1
    obtain ⟨v', ev', r'⟩ := q'.get e2
    have hs := (h.gk g).sq
    have hs' := (h'.gk g).sq
    refine ⟨⟨xs, ys, v, v', hs, hs', ev, ev'⟩, fun y H3 ⟨T, x1, y1, ey, hT, e3, hx, hy⟩ => ?_⟩
    subst ey e3
    have t1 := hx xs hs
    rw [ev] at t1; cases t1
    have t2 := hy ys hs'
    rw [ev'] at t2; cases t2
    exact ⟨Gr.new rs hT, rs.new hT, rv_tup rs (.cons (r.gk g) (.cons (r'.gk g) .nil)) hT⟩
  stop := fun as2 st2 H2 g rs => ⟨xs, ys, (h.gk g).sq, (h'.gk g).sq, by rw [← q.length, ← q'.length]; exact zipL_len l m⟩
theorem walks_str {x : Str} : Walks G H as (strItems x) (Its x) where
  go := fun as2 st2 H2 i z g rs e => by
    unfold strItems at e
    rw [List.getElem?_map, Array.getElem?_toList] at e
    cases ec : x.cps[i]? with
    | none => rw [ec] at e; cases e
    | some c =>
      rw [ec] at e
      cases e
      refine ⟨(Array.getElem?_eq_some_iff.mp ec).1, fun y H3 ⟨e3, c', ec', ey⟩ => ?_⟩
      subst e3 ey
      rw [ec] at ec'; cases ec'
      exact ⟨Gr.refl _ _, rs, .dat (.str _)⟩
  stop := fun as2 st2 H2 g rs => by show x.cps.size ≤ _; unfold strItems; simp
end
section
variable {G : Gz} {X : Cx} {W : WX} {k : Nat} {tg e e2 : Expr} {f : Ev → Mo D} {fs : Ev → Mo (List D)} {p pos tpos : Pos} {elts : List Expr} {kk : Nat}
theorem si_enum (F : Fits G X) (hg : Gl X "enumerate") (hm : X.mg "enumerate" = none) (ha : PA X [e] (tA G W fs)) (hs : starEach [e] X.env = [(false, eval e X.env)] := by rfl) : PI X (.Tuple elts kk tpos) (.Call (.Name "enumerate" p) [e] [] pos) (tI G W (iEnumD fs)) := by
  have eK := F.K
  refine PI.imp (pi_enumA hg hm ha hs) ?_
  rw [eK]
  intro σ H R ⟨ρ, as, st, re, rs, hp⟩
  refine ⟨ρ, as, st, re, rs, (Post.bind hp).mono fun xs H1 ⟨ds, as1, st1, e0, g1, rs1, ra, hp1⟩ => ?_⟩
  clear e0
  split at hp1
  · rename_i d
    split at hp1
    · rename_i b l ed
      cases ra with
      | cons r rr =>
      cases rr
      obtain ⟨a, vs, rfl, hs, q⟩ := frz_ok r ed
      cases b with
      | true => rw [if_pos rfl] at hs; exact ⟨a, vs, rfl, .inr ⟨hs.sq, hp1 as1 _ H1 (Gr.refl _ _) rs1 (walks_enumT hs q)⟩⟩
      | false => rw [if_neg Bool.false_ne_true] at hs; exact ⟨a, vs, rfl, .inl ⟨hs.sq, hp1 as1 _ H1 (Gr.refl _ _) rs1 (walks_enumL hs q)⟩⟩
    · exact hp1.elim
  · exact hp1.elim
theorem si_zip (F : Fits G X) (hg : Gl X "zip") (hm : X.mg "zip" = none) (ha : PA X [e, e2] (tA G W fs)) (hs : starEach [e, e2] X.env = (false, eval e X.env) :: starEach [e2] X.env := by rfl) (hpl : (backTo pos (starEach [e2] X.env)).any (·.1) = false := by rfl) :
    PI X (.Tuple elts kk tpos) (.Call (.Name "zip" p) [e, e2] [] pos) (tI G W (iZipD fs)) := by
  have eK := F.K
  refine PI.imp (RZ.pi_zipA hg hm ha hs hpl) ?_
  rw [eK]
  intro σ H R ⟨ρ, as, st, re, rs, hp⟩
  refine ⟨ρ, as, st, re, rs, (Post.bind hp).mono fun xs H1 ⟨ds, as1, st1, e0, g1, rs1, ra, hp1⟩ => ?_⟩
  clear e0
  split at hp1
  · rename_i d d2
    split at hp1
    · rename_i b l c m ed ed2
      split at hp1
      · rename_i ebc
        subst ebc
        cases ra with
        | cons r rr =>
        cases rr with
        | cons r2 rr =>
        cases rr
        obtain ⟨a, vs, rfl, hs, q⟩ := frz_ok r ed
        obtain ⟨a2, vs2, rfl, hs2, q2⟩ := frz_ok r2 ed2
        cases b with
        | true => rw [if_pos rfl] at hs hs2; exact ⟨a, a2, vs, vs2, rfl, .inr ⟨hs.sq, hs2.sq, hp1 as1 _ H1 (Gr.refl _ _) rs1 (walks_zipT hs q hs2 q2)⟩⟩
        | false => rw [if_neg Bool.false_ne_true] at hs hs2; exact ⟨a, a2, vs, vs2, rfl, .inl ⟨hs.sq, hs2.sq, hp1 as1 _ H1 (Gr.refl _ _) rs1 (walks_zipL hs q hs2 q2)⟩⟩
      · exact hp1.elim
    · exact hp1.elim
  · exact hp1.elim
theorem si_str (h : PE X e (tE G W f)) : PI X tg e (tI G W (iStrD f)) := PI.imp (pi_str h) fun σ H R ⟨ρ, as, st, re, rs, hp⟩ =>
  ⟨ρ, as, st, re, rs, (Post.bind hp).mono fun x H1 ⟨d, as1, st1, e0, g1, rs1, ra, hp1⟩ => by
    clear e0
    split at hp1
    · rename_i x
      cases ra with
      | dat r => cases r with
        | str => exact ⟨x, rfl, hp1 as1 _ H1 (Gr.refl _ _) rs1 walks_str⟩
    · exact hp1.elim⟩
end
end Zp

set_option Elab.async false
set_option linter.all false
set_option autoImplicit false
set_option maxRecDepth 100000
set_option maxHeartbeats 4000000
namespace Zp
open PySem PySem.Spec PyProof.Rows L2
/-! ### calls of built-ins -/
def OpN (G : Gx) (r : List V → Hp → VK → Prop) (op : List D → Mo D) : Prop := ∀ (H : Hp) (as : As) (st : List Cell) (xs : List V) (ds : List D) (E : XK) (Q : VK), Rs G as st H → RVs G H as ds xs → Post G (RV G) H as E Q (op ds st) → r xs H Q
def cB (op : List D → Mo D) (f : Ev → Mo (List D)) (ρ : Ev) : Mo D := fun st => (f ρ st).bind op
section
variable {G : Gz} {X : Cx} {W : WX} {k : Nat} {x : Str} {p pos : Pos} {e : Expr} {es : List Expr} {id T : String} {r : List V → Hp → VK → Prop} {op : List D → Mo D} {f : Ev → Mo (List D)}
theorem callb_imp (hr : OpN G.toGx r op) (σ : L2.St) (H : Hp) (Q : VK) (h : tE G W (cB op f) σ H Q) : tCB r (tA G W f) σ H Q := by
  obtain ⟨ρ, as, st, re, rs, hp⟩ := h
  exact ⟨ρ, as, st, re, rs, (Post.bind hp).mono fun xs H1 ⟨ds, as1, st1, _, g1, rs1, ra, hp1⟩ => hr H1 as1 st1 xs ds _ Q rs1 ra hp1⟩
theorem se_callB (hc : CallR X (.builtin id) r) (hr : OpN G.toGx r op) (hg : Gl X x) (hm : X.mg x = none) (hv : bootBuiltins x = some (.builtin id)) (ha : PA X (e :: es) (tA G W f)) (hn : x ≠ "__name__" := by decide) (hdb : (x == ("__debug__" : Str)) = false := by decide)
    (he : starEach (e :: es) X.env = (false, eval e X.env) :: starEach es X.env := by rfl) (hpl : (backTo pos (starEach es X.env)).any (·.1) = false := by rfl) : PE X (.Call (.Name x p) (e :: es) [] pos) (tE G W (cB op f)) :=
  PE.imp (pe_callB hc hg hm hv ha hn hdb he hpl) (callb_imp hr)
theorem se_callTy (hc : CallR X (.type T) r) (hr : OpN G.toGx r op) (hg : Gl X x) (hm : X.mg x = none) (hv : bootBuiltins x = some (.type T)) (ha : PA X (e :: es) (tA G W f)) (hn : x ≠ "__name__" := by decide) (hdb : (x == ("__debug__" : Str)) = false := by decide)
    (he : starEach (e :: es) X.env = (false, eval e X.env) :: starEach es X.env := by rfl) (hpl : (backTo pos (starEach es X.env)).any (·.1) = false := by rfl) : PE X (.Call (.Name x p) (e :: es) [] pos) (tE G W (cB op f)) :=
  PE.imp (pe_callTy hc hg hm hv ha hn hdb he hpl) (callb_imp hr)
end
/-! the items of a list or tuple, of a dict's keys -/
/-- the sequence read now -/
theorem seq_ok {G : Gx} {H : Hp} {as : As} {st : List Cell} {d : D} {v : V} {l : List PyData} (rs : Rs G as st H) (r : RV G H as d v) (e : rd d st = .ok (.list l) st) : ∃ a vs, v = .ref a ∧ SqL G.K H a vs ∧ DqAll G.K H as vs l := by
  have h : Post G (fun _ _ (_ : Unit) (_ : Unit) => True) H as (fun _ _ _ => True) (fun _ _ => True) ((rd d st).bind fun _ => ret ()) := by rw [e]; exact fun _ _ _ _ _ _ => trivial
  obtain ⟨x, e1, dr, _⟩ := rd_ok rs r h
  rw [e1] at e; cases e
  obtain ⟨a, vs, rfl, h1, h2⟩ := dr.list
  exact ⟨a, vs, rfl, .inl h1, h2⟩
theorem rd_st {d : D} {st st' : List Cell} {x : PyData} (e : rd d st = .ok x st') : st' = st := by
  cases d with
  | dat y => cases e; rfl
  | ref n =>
    have e : rdR n st = .ok x st' := e
    unfold rdR at e
    split at e
    · cases e; rfl
    · cases e
  | obj c fs => cases e
  | tup l => cases e
  | lst l => cases e
/-! len -/
def lenO : List D → Mo D := fun ds st => match ds with
  | [d] => match d with
    | .tup l => .ok (.dat (.int l.length)) st
    | .lst l => .ok (.dat (.int l.length)) st
    | .dat (.list l) => .ok (.dat (.int l.length)) st
    | .dat (.tuple l) => .ok (.dat (.int l.length)) st
    | .dat (.str x) => if x.length ≤ lim then .ok (.dat (.int x.length)) st else .bad
    | .ref n => match st[n]? with
      | some (.lst l) => .ok (.dat (.int l.length)) st
      | some (.dic _ l) => .ok (.dat (.int l.length)) st
      | _ => .bad
    | _ => .bad
  | _ => .bad
def rLenA (K : PySem.W.Frag) : List V → Hp → VK → Prop := fun xs H Q => (∃ x n, xs = [x] ∧ LenV K x H n ∧ Q (.int n) H) ∨ rLenN xs H Q
theorem call_lenA {X : Cx} : CallR X (.builtin "len") (rLenA X.K) := CallR.or call_len call_lenN
theorem lenO_op {G : Gx} : OpN G (rLenA G.K) lenO := by
  intro H as st xs ds E Q rs ra hp
  unfold lenO at hp
  split at hp
  · rename_i d
    cases ra with
    | cons r rr =>
    cases rr
    split at hp
    · cases r with
      | tup h q => exact .inl ⟨_, _, rfl, .inr ⟨_, h.sq, rfl⟩, hp as _ H (Gr.refl _ _) rs (.dat (by rw [q.length]; exact .int _))⟩
    · cases r with
      | lst h q => exact .inl ⟨_, _, rfl, .inl ⟨_, h.sq, rfl⟩, hp as _ H (Gr.refl _ _) rs (.dat (by rw [q.length]; exact .int _))⟩
    · cases r with
      | dat r => cases r with
        | lst h q => exact .inl ⟨_, _, rfl, .inl ⟨_, h.sq, rfl⟩, hp as _ H (Gr.refl _ _) rs (.dat (by rw [← q.length]; exact .int _))⟩
    · cases r with
      | dat r => cases r with
        | tup h q => exact .inl ⟨_, _, rfl, .inr ⟨_, h.sq, rfl⟩, hp as _ H (Gr.refl _ _) rs (.dat (by rw [← q.length]; exact .int _))⟩
    · cases r with
      | dat r => cases r with
        | str =>
          split at hp
          · rename_i hz
            exact .inl ⟨_, _, rfl, ⟨by rw [← lim_eq]; exact hz, rfl⟩, hp as _ H (Gr.refl _ _) rs (.dat (.int _))⟩
          · exact hp.elim
    · cases r with
      | @ref n a ea =>
        split at hp
        · rename_i l el
          obtain ⟨vs, h1, h2⟩ := rs.cell _ _ _ ea el
          exact .inl ⟨_, _, rfl, .inl ⟨_, .inl (.inl h1), rfl⟩, hp as _ H (Gr.refl _ _) rs (.dat (by rw [← h2.length]; exact .int _))⟩
        · rename_i f l el
          obtain ⟨es, ep, kvs, lk, hd⟩ := rs.cell _ _ _ ea el
          exact .inr ⟨a, es, ep, rfl, lk_rd lk, hp as _ H (Gr.refl _ _) rs (.dat (by rw [it_len hd.it, hd.lie.len]; exact .int _))⟩
        · exact hp.elim
    · exact hp.elim
  · exact hp.elim
/-! int, abs, max, min of two, divmod -/
def intO : List D → Mo D := fun ds st => match ds with
  | [.dat (.int i)] => .ok (.dat (.int i)) st
  | [.dat (.bool b)] => .ok (.dat (.int (if b then 1 else 0))) st
  | _ => .bad
theorem intO_op {G : Gx} : OpN G (fun xs H Q => (∃ i, xs = [.int i] ∧ Q (.int i) H) ∨ ∃ k, xs = [.bl k] ∧ Q (.int (if k then 1 else 0)) H) intO := by
  intro H as st xs ds E Q rs ra hp
  unfold intO at hp
  split at hp
  · cases ra with | cons r rr => cases rr; cases r with | dat r => cases r with | int => exact .inl ⟨_, rfl, hp as _ H (Gr.refl _ _) rs (.dat (.int _))⟩
  · cases ra with | cons r rr => cases rr; cases r with | dat r => cases r with | bl => exact .inr ⟨_, rfl, hp as _ H (Gr.refl _ _) rs (.dat (.int _))⟩
  · exact hp.elim
def absO : List D → Mo D := fun ds st => match ds with
  | [.dat (.int i)] => .ok (.dat (.int (if i < 0 then -i else i))) st
  | _ => .bad
theorem absO_op {G : Gx} : OpN G (fun xs H Q => ∃ i, xs = [.int i] ∧ Q (.int (if i < 0 then -i else i)) H) absO := by
  intro H as st xs ds E Q rs ra hp
  unfold absO at hp
  split at hp
  · cases ra with | cons r rr => cases rr; cases r with | dat r => cases r with | int => exact ⟨_, rfl, hp as _ H (Gr.refl _ _) rs (.dat (.int _))⟩
  · exact hp.elim
def int2O (g : Int → Int → Int) : List D → Mo D := fun ds st => match ds with
  | [.dat (.int i), .dat (.int j)] => .ok (.dat (.int (g i j))) st
  | _ => .bad
theorem int2O_op {G : Gx} {g : Int → Int → Int} : OpN G (fun xs H Q => ∃ i j, xs = [.int i, .int j] ∧ Q (.int (g i j)) H) (int2O g) := by
  intro H as st xs ds E Q rs ra hp
  unfold int2O at hp
  split at hp
  · cases ra with
    | cons r rr => cases rr with
      | cons r2 rr =>
        cases rr
        cases r with | dat r => cases r with | int => cases r2 with | dat r2 => cases r2 with | int => exact ⟨_, _, rfl, hp as _ H (Gr.refl _ _) rs (.dat (.int _))⟩
  · exact hp.elim
abbrev max2O := int2O fun i j => if j > i then j else i
abbrev min2O := int2O fun i j => if j < i then j else i
def divmodO : List D → Mo D := fun ds st => match ds with
  | [.dat (.int i), .dat (.int j)] => if 0 < j ∧ Builtin.divisionGoesByPylong i j = false then .ok (.dat (.tuple [.int (i / j), .int (i % j)])) st else .bad
  | _ => .bad
theorem divmodO_op {G : Gx} : OpN G (fun xs H Q => ∃ i j, xs = [.int i, .int j] ∧ CDivP i j ∧ ∀ p, H p = none → Q (.ref p) (upd H p (.tup [.int (i / j), .int (i % j)]))) divmodO := by
  intro H as st xs ds E Q rs ra hp
  unfold divmodO at hp
  split at hp
  · split at hp
    · rename_i hc
      cases ra with
      | cons r rr => cases rr with
        | cons r2 rr =>
          cases rr
          cases r with | dat r => cases r with | int => cases r2 with | dat r2 => cases r2 with | int => exact ⟨_, _, rfl, hc, fun p hn => fin_tup rs hp (.cons (.int _) (.cons (.int _) .nil)) p hn⟩
    · exact hp.elim
  · exact hp.elim
/-! list(x), tuple(x) -/
def callListR (K : PySem.W.Frag) : List V → Hp → VK → Prop := fun xs H Q => (∃ p ys, xs = [.ref p] ∧ (SqL K H p ys ∨ SqT K H p ys) ∧ ∀ l, H l = none → Q (.ref l) (upd H l (.lst ys))) ∨
  ∃ d es ep ks, xs = [.ref d] ∧ Rd H d (rawO d es ep) ∧ (∀ us : List Value, us = es.toList.map (·.key) → Vals ks us) ∧ ∀ p, H p = none → Q (.ref p) (upd H p (.lst ks))
theorem call_listN {X : Cx} (hc : X.calm = true) : CallR X (.type "list") (fun xs H Q => ∃ d es ep ks, xs = [.ref d] ∧ Rd H d (rawO d es ep) ∧ (∀ us : List Value, us = es.toList.map (·.key) → Vals ks us) ∧ ∀ p, H p = none → Q (.ref p) (upd H p (.lst ks))) := by
  intro pins s σ H xs us Q I r h
  obtain ⟨d, es, ep, ks, rfl, hd, rk, q⟩ := h
  obtain ⟨u, rfl, rx⟩ := r.one
  obtain rfl : u = .ref d := rx
  obtain ⟨⟨o, ho, hx, hdt⟩, hs, hz⟩ := raw_at I hd
  refine PySem.W.kdl_call (kdl_raw hs hx hdt) (I.ok.hd hc) ho hz fun h' tk acc c' kp e it => ?_
  have ea : acc.toList = es.toList.map (·.key) := by
    have hl : acc.toList.length = es.toList.length := by rw [Array.length_toList, it.1, Array.length_toList]
    apply List.ext_getElem?
    intro j
    rw [List.getElem?_map]
    cases hj : acc.toList[j]? with
    | none => rw [List.getElem?_eq_none_iff.mpr (by rw [← hl]; exact List.getElem?_eq_none_iff.mp hj)]; rfl
    | some v =>
      obtain ⟨en, e1, e2⟩ := it.2 j v (by rw [← hj, Array.getElem?_toList])
      rw [Array.getElem?_toList, e1, e2]; rfl
  have rv := rk _ ea
  refine ⟨.ref s.heap.objs.size, _, I.laid (o := .lst ks) kp (Nat.le_refl _) ⟨?_, acc.toList, c', rv, e⟩, rfl, q _ (I.hok.fresh (Nat.le_refl _))⟩
  rw [rv.length, Array.length_toList, it.1]; exact hz
theorem call_listA {X : Cx} (hc : X.calm = true) : CallR X (.type "list") (callListR X.K) := CallR.or call_list_of (call_listN hc)
/-- the items that list(x) takes -/
def takenD : D → List Cell → Option (List D)
  | .tup l, _ => some l
  | .lst l, _ => some l
  | .dat (.list l), _ => some (l.map .dat)
  | .dat (.tuple l), _ => some (l.map .dat)
  | .ref n, st => match st[n]? with
    | some (.lst l) => some (l.map .dat)
    | some (.dic _ l) => some (l.map fun p => .dat p.1)
    | _ => none
  | _, _ => none
theorem keys_vals {G : Gx} {H : Hp} {as : As} {st : List Cell} {l : Dic} {es : Array DictEntry} {kvs : List (NestedKey × V)} (rs : Rs G as st H) (h : DicOk G H as l es kvs) : ∃ ks, (∀ us : List Value, us = es.toList.map (·.key) → Vals ks us) ∧ DqAll G.K H as ks (l.map (·.1)) := by
  have go : ∀ {l : Dic} {kvs : List (NestedKey × V)} {ls : List DictEntry}, Paired (fun (p : PyData × PyData) (q : NestedKey × V) => p.1 = q.1.data ∧ Dq G.K H as q.2 p.2) l kvs → Paired (EntOk G.K G.w H) kvs ls → ∃ ks, Vals ks (ls.map (·.key)) ∧ DqAll G.K H as ks (l.map (·.1)) := by
    intro l kvs ls h1
    induction h1 generalizing ls with
    | nil => intro h2; cases h2; exact ⟨[], .nil, .nil⟩
    | @cons q r qs rs' a b ih =>
      intro h2
      cases h2 with
      | @cons _ en _ ens c d =>
        obtain ⟨ks, i1, i2⟩ := ih d
        obtain ⟨kv, r1, r2⟩ := c.key
        exact ⟨kv :: ks, .cons r1 i1, .cons (show Dq G.K H as kv q.1 by rw [a.1]; exact NKv.dq rs r2) i2⟩
  obtain ⟨ks, h1, h2⟩ := go h.it h.lie.ents
  exact ⟨ks, fun us e => by rw [e]; exact h1, h2⟩
theorem map_fst_dat (l : Dic) : (l.map fun p => D.dat p.1) = (l.map (·.1)).map .dat := by rw [List.map_map]; rfl
theorem taken_ok {G : Gx} {H : Hp} {as : As} {st : List Cell} {d : D} {v : V} {l : List D} {Q : VK} (rs : Rs G as st H) (r : RV G H as d v) (e : takenD d st = some l) (q : ∀ xs p, RVs G H as l xs → H p = none → Q (.ref p) (upd H p (.lst xs))) : callListR G.K [v] H Q := by
  unfold takenD at e
  split at e
  · cases e; cases r with | tup h h2 => exact .inl ⟨_, _, rfl, .inr h.sq, fun p hn => q _ p h2 hn⟩
  · cases e; cases r with | lst h h2 => exact .inl ⟨_, _, rfl, .inl h.sq, fun p hn => q _ p h2 hn⟩
  · cases e; cases r with | dat r => cases r with | lst h h2 => exact .inl ⟨_, _, rfl, .inl h.sq, fun p hn => q _ p (RVs.of_dq h2) hn⟩
  · cases e; cases r with | dat r => cases r with | tup h h2 => exact .inl ⟨_, _, rfl, .inr h.sq, fun p hn => q _ p (RVs.of_dq h2) hn⟩
  · cases r with
    | @ref n a ea =>
    split at e
    · rename_i l' el
      cases e
      obtain ⟨vs, h1, h2⟩ := rs.cell _ _ _ ea el
      exact .inl ⟨a, vs, rfl, .inl (.inl (.inl h1)), fun p hn => q _ p (RVs.of_dq h2) hn⟩
    · rename_i f l' el
      cases e
      obtain ⟨es, ep, kvs, lk, hd⟩ := rs.cell _ _ _ ea el
      obtain ⟨ks, rk, dk⟩ := keys_vals rs hd
      exact .inr ⟨a, es, ep, ks, rfl, lk_rd lk, rk, fun p hn => q _ p (by rw [map_fst_dat]; exact RVs.of_dq dk) hn⟩
    · cases e
  · cases e
def listO : List D → Mo D := fun ds st => match ds with
  | [d] => match takenD d st with
    | some l => .ok (mkLst l) st
    | none => .bad
  | _ => .bad
def listOM : List D → Mo D := fun ds st => match ds with
  | [d] => match takenD d st with
    | some l => (match datAll l with
      | some m => .ok (.ref st.length) (st ++ [.lst m])
      | none => .bad)
    | none => .bad
  | _ => .bad
theorem listO_op {G : Gx} : OpN G (callListR G.K) listO := by
  intro H as st xs ds E Q rs ra hp
  unfold listO at hp
  split at hp
  · rename_i d
    cases ra with
    | cons r rr =>
    cases rr
    cases e : takenD d st with
    | none => rw [e] at hp; exact hp.elim
    | some l => rw [e] at hp; exact taken_ok rs r e fun xs p q hn => fin_lstD rs hp q p hn
  · exact hp.elim
theorem listOM_op {G : Gx} : OpN G (callListR G.K) listOM := by
  intro H as st xs ds E Q rs ra hp
  unfold listOM at hp
  split at hp
  · rename_i d
    cases ra with
    | cons r rr =>
    cases rr
    cases e : takenD d st with
    | none => rw [e] at hp; exact hp.elim
    | some l =>
      rw [e] at hp
      replace hp : Post G (RV G) H as E Q (match datAll l with
        | some m => .ok (.ref st.length) (st ++ [.lst m])
        | none => .bad) := hp
      cases e2 : datAll l with
      | none => rw [e2] at hp; exact hp.elim
      | some m =>
        rw [e2] at hp
        exact taken_ok rs r e fun xs p q hn => fin_ref rs hp (by rw [datAll_some e2] at q; exact RVs.to_dq q) p hn
  · exact hp.elim
/-! tuple(x) -/
def rTupS : List V → Hp → VK → Prop := fun xs H Q => ∃ x, xs = [.str x] ∧ x.cps.size ≤ sizeLine ∧ ∀ l, H l = none → Q (.ref l) (upd H l (.tup (x.cps.toList.map fun c => V.str ⟨#[c]⟩)))
theorem signs_vals {x : Str} {acc : Array Value} (h : ItemsOf (SignAt x) acc x.cps.size) : Vals (x.cps.toList.map fun c => V.str ⟨#[c]⟩) acc.toList := by
  refine vals_of_at (by rw [List.length_map, Array.length_toList, Array.length_toList, h.1]) fun j v u h1 h2 => ?_
  obtain ⟨c, t, hc, rfl⟩ := h.2 j u (by rw [← Array.getElem?_toList]; exact h2)
  rw [List.getElem?_map, Array.getElem?_toList, hc] at h1
  cases h1
  exact ⟨t, rfl⟩
theorem call_tupS {X : Cx} (hc : X.calm = true) : CallR X (.type "tuple") rTupS := by
  intro pins s σ H xs us Q I r h
  obtain ⟨x, rfl, hz, q⟩ := h
  obtain ⟨u, rfl, t, rfl⟩ := r.one
  refine call_tuple_str (hsz := hz) (I.ok.hd hc) x t fun h' tk acc hk hacc => ?_
  have I1 : L2.Inv X pins σ H { s with heap := h', toks := tk } := I.kept (t' := tk) hk
  refine ⟨.ref h'.objs.size, _, I1.laid (t' := tk) (o := .tup (x.cps.toList.map fun c => V.str ⟨#[c]⟩)) (fun b o e => Heap.get?_push_of_some _ e) (Nat.le_refl _) ⟨by rw [List.length_map, Array.length_toList]; exact hz, acc.toList, signs_vals hacc, ?_⟩, rfl, q _ (I1.hok.fresh (Nat.le_refl _))⟩
  rw [Array.toArray_toList]
  exact IsTup.new _ _
def rTupA (K : PySem.W.Frag) : List V → Hp → VK → Prop := fun xs H Q => (∃ p ys, xs = [.ref p] ∧ ((SqL K H p ys ∧ ∀ l, H l = none → Q (.ref l) (upd H l (.tup ys))) ∨ (SqT K H p ys ∧ Q (.ref p) H))) ∨ rTupS xs H Q
theorem call_tupA {X : Cx} (hc : X.calm = true) : CallR X (.type "tuple") (rTupA X.K) := CallR.or call_tuple_of (call_tupS hc)
def tupleO : List D → Mo D := fun ds st => match ds with
  | [d] => match d with
    | .tup l => .ok (.tup l) st
    | .lst l => .ok (mkTup l) st
    | .dat (.list l) => .ok (.dat (.tuple l)) st
    | .dat (.tuple l) => .ok (.dat (.tuple l)) st
    | .dat (.str x) => if x.cps.size ≤ lim then .ok (.dat (.tuple (x.cps.toList.map fun c => .str ⟨#[c]⟩))) st else .bad
    | .ref n => match st[n]? with
      | some (.lst l) => .ok (.dat (.tuple l)) st
      | _ => .bad
    | _ => .bad
  | _ => .bad
theorem tupleO_op {G : Gx} : OpN G (rTupA G.K) tupleO := by
  intro H as st xs ds E Q rs ra hp
  unfold tupleO at hp
  split at hp
  · rename_i d
    cases ra with
    | cons r rr =>
    cases rr
    split at hp
    · cases r with
      | tup h q => exact .inl ⟨_, _, rfl, .inr ⟨h.sq, hp as _ H (Gr.refl _ _) rs (.tup h q)⟩⟩
    · cases r with
      | lst h q => exact .inl ⟨_, _, rfl, .inl ⟨h.sq, fun p hn => fin_tupD rs hp q p hn⟩⟩
    · cases r with
      | dat r => cases r with
        | lst h q => exact .inl ⟨_, _, rfl, .inl ⟨h.sq, fun p hn => fin_tup rs hp q p hn⟩⟩
    · cases r with
      | dat r => cases r with
        | tup h q => exact .inl ⟨_, _, rfl, .inr ⟨h.sq, hp as _ H (Gr.refl _ _) rs (.dat (.tup h q))⟩⟩
    · cases r with
      | dat r => cases r with
        | str =>
          rename_i x
          split at hp
          · rename_i hz
            refine .inr ⟨x, rfl, by rw [← lim_eq]; exact hz, fun p hn => fin_tup rs hp ?_ p hn⟩
            clear hz hp
            generalize x.cps.toList = l
            induction l with
            | nil => exact .nil
            | cons c l ih => exact .cons (.str _) ih
          · exact hp.elim
    · cases r with
      | @ref n a ea =>
        split at hp
        · rename_i l el
          obtain ⟨vs, h1, h2⟩ := rs.cell _ _ _ ea el
          exact .inl ⟨_, _, rfl, .inl ⟨.inl (.inl h1), fun p hn => fin_tup rs hp h2 p hn⟩⟩
        · exact hp.elim
    · exact hp.elim
  · exact hp.elim
/-! sum, all, any of a list -/
def intsOf : List PyData → Option (List Int)
  | [] => some []
  | .int i :: r => (intsOf r).map (i :: ·)
  | _ => none
def boolsOf : List PyData → Option (List Bool)
  | [] => some []
  | .bool i :: r => (boolsOf r).map (i :: ·)
  | _ => none
theorem intsOf_ok {K : PySem.W.Frag} {H : Hp} {as : As} : ∀ {l : List PyData} {ns : List Int} {vs : List V}, intsOf l = some ns → DqAll K H as vs l → vs = ns.map V.int
  | [], _, _, e, .nil => by cases e; rfl
  | .int i :: r, _, _, e, .cons a b => by
    simp only [intsOf, Option.map_eq_some_iff] at e
    obtain ⟨m, e1, rfl⟩ := e
    cases a
    rw [intsOf_ok e1 b]; rfl
  | .none :: _, _, _, e, _ => by cases e
  | .bool _ :: _, _, _, e, _ => by cases e
  | .str _ :: _, _, _, e, _ => by cases e
  | .list _ :: _, _, _, e, _ => by cases e
  | .tuple _ :: _, _, _, e, _ => by cases e
theorem boolsOf_ok {K : PySem.W.Frag} {H : Hp} {as : As} : ∀ {l : List PyData} {ns : List Bool} {vs : List V}, boolsOf l = some ns → DqAll K H as vs l → vs = ns.map V.bl
  | [], _, _, e, .nil => by cases e; rfl
  | .bool i :: r, _, _, e, .cons a b => by
    simp only [boolsOf, Option.map_eq_some_iff] at e
    obtain ⟨m, e1, rfl⟩ := e
    cases a
    rw [boolsOf_ok e1 b]; rfl
  | .none :: _, _, _, e, _ => by cases e
  | .int _ :: _, _, _, e, _ => by cases e
  | .str _ :: _, _, _, e, _ => by cases e
  | .list _ :: _, _, _, e, _ => by cases e
  | .tuple _ :: _, _, _, e, _ => by cases e
def lstO (g : List PyData → Option PyData) : List D → Mo D := fun ds st => match ds with
  | [d] => (rd d st).bind fun x st1 => match x with
    | .list l => match g l with
      | some z => .ok (.dat z) st1
      | none => .bad
    | _ => .bad
  | _ => .bad
theorem lstO_op {G : Gx} {r : List V → Hp → VK → Prop} {g : List PyData → Option PyData} (h : ∀ (H : Hp) (as : As) (st : List Cell) (a : Addr) (vs : List V) (l : List PyData) (z : PyData) (E : XK) (Q : VK), Rs G as st H → SqL G.K H a vs → DqAll G.K H as vs l → g l = some z → Post G (RV G) H as E Q (.ok (.dat z) st) → r [.ref a] H Q) : OpN G r (lstO g) := by
  intro H as st xs ds E Q rs ra hp
  unfold lstO at hp
  split at hp
  · rename_i d
    cases ra with
    | cons rv rr =>
    cases rr
    obtain ⟨x, e1, dr, hp⟩ := rd_ok rs rv hp
    split at hp
    · rename_i l
      obtain ⟨a, vs, rfl, h1, h2⟩ := dr.list
      cases e : g l with
      | none => rw [e] at hp; exact hp.elim
      | some z => rw [e] at hp; exact h H as st a vs l z E Q rs (.inl h1) h2 e hp
    · exact hp.elim
  · exact hp.elim
def sumO := lstO fun l => (intsOf l).map fun ns => .int ns.sum
def allO := lstO fun l => (boolsOf l).map fun bs => .bool (bs.all id)
def anyO := lstO fun l => (boolsOf l).map fun bs => .bool (bs.any id)
theorem sumO_op {G : Gx} : OpN G (rSum G.K) sumO := lstO_op fun H as st a vs l z E Q rs h q e hp => by
  simp only [Option.map_eq_some_iff] at e
  obtain ⟨ns, e1, rfl⟩ := e
  rw [intsOf_ok e1 q] at h
  exact ⟨a, ns, rfl, h, fin_dat rs hp (.int _)⟩
theorem allO_op {G : Gx} : OpN G (rAll G.K) allO := lstO_op fun H as st a vs l z E Q rs h q e hp => by
  simp only [Option.map_eq_some_iff] at e
  obtain ⟨ns, e1, rfl⟩ := e
  rw [boolsOf_ok e1 q] at h
  exact ⟨a, ns, rfl, h, fin_dat rs hp (.bl _)⟩
theorem anyO_op {G : Gx} : OpN G (rAny G.K) anyO := lstO_op fun H as st a vs l z E Q rs h q e hp => by
  simp only [Option.map_eq_some_iff] at e
  obtain ⟨ns, e1, rfl⟩ := e
  rw [boolsOf_ok e1 q] at h
  exact ⟨a, ns, rfl, h, fin_dat rs hp (.bl _)⟩
end Zp

set_option Elab.async false
set_option linter.all false
set_option autoImplicit false
set_option maxRecDepth 100000
set_option maxHeartbeats 4000000
namespace Zp
open PySem PySem.Spec PyProof.Rows L2
open PySem.W (dataLe dataLt AllAlike Sortable alike)
/-! ### sorted -/
def alikeB (l : List PyData) : Bool := l.all fun a => l.all fun b => PySem.W.alike a b
def tup1 : PyData → Bool
  | .tuple (_ :: _) => true
  | _ => false
def noTup : PyData → Bool
  | .none => false
  | .tuple _ => false
  | _ => true
def okSort (l : List PyData) : Bool := alikeB l && (l.all tup1 || l.all noTup) && l.all fun d => decide (d.depth ≤ 64)
theorem okSort_ok {l : List PyData} (h : okSort l = true) : AllAlike l ∧ Sortable l ∧ ∀ d, d ∈ l → d.depth ≤ 64 := by
  unfold okSort alikeB at h
  simp only [Bool.and_eq_true, Bool.or_eq_true, List.all_eq_true, decide_eq_true_eq] at h
  refine ⟨fun d hd e he => h.1.1 d hd e he, ?_, h.2⟩
  rcases h.1.2 with h1 | h1
  · refine .inl fun d hd => ?_
    have := h1 d hd
    cases d with
    | tuple l => cases l with
      | nil => cases this
      | cons x r => exact ⟨x, r, rfl⟩
    | _ => cases this
  · refine .inr fun d hd => ⟨fun e => ?_, fun xs e => ?_⟩
    · have := h1 d hd; rw [e] at this; cases this
    · have := h1 d hd; rw [e] at this; cases this
/-- p goes ahead of the first one that is not below it -/
def insK {α : Type} (p : α × PyData) : List (α × PyData) → List (α × PyData)
  | [] => [p]
  | q :: r => if dataLt q.2 p.2 = true then q :: insK p r else p :: q :: r
def isortK {α : Type} : List (α × PyData) → List (α × PyData)
  | [] => []
  | p :: r => insK p (isortK r)
/-- sorted by the keys kz -/
def sortK {α : Type} (l : List α) (kz : List PyData) : List α := (isortK (l.zip kz)).map (·.1)
theorem le_total' {α : Type} (a b : α × PyData) : (dataLe false (fun p : α × PyData => p.2) a b || dataLe false (fun p : α × PyData => p.2) b a) = true := by
  rw [PySem.W.dataLe_eq]
  show ((!dataLt b.2 a.2) || (!dataLt a.2 b.2)) = true
  cases h1 : dataLt b.2 a.2 with
  | false => rfl
  | true =>
    cases h2 : dataLt a.2 b.2 with
    | false => rfl
    | true =>
      have z := PyProof.Rows.lex_trans (O := PyProof.Rows.itemOrd) _ _ _ h1 h2
      rw [PyProof.Rows.lex_irrefl] at z
      cases z
theorem le_trans' {α : Type} (a b c : α × PyData) (h1 : dataLe false (fun p : α × PyData => p.2) a b = true) (h2 : dataLe false (fun p : α × PyData => p.2) b c = true) : dataLe false (fun p : α × PyData => p.2) a c = true := by
  rw [PySem.W.dataLe_eq] at h1 h2 ⊢
  have h1 : (!dataLt b.2 a.2) = true := h1
  have h2 : (!dataLt c.2 b.2) = true := h2
  show (!dataLt c.2 a.2) = true
  cases h : dataLt c.2 a.2 with
  | false => rfl
  | true =>
    rcases PyProof.Rows.lex_negTrans (O := PyProof.Rows.itemOrd) _ (PySem.W.keyToks b.2) _ h with z | z
    · have z : dataLt c.2 b.2 = true := z
      rw [z] at h2; cases h2
    · have z : dataLt b.2 a.2 = true := z
      rw [z] at h1; cases h1
theorem insK_mid {α : Type} (p : α × PyData) : ∀ (l1 l2 : List (α × PyData)), (∀ b, b ∈ l1 → dataLt b.2 p.2 = true) → (∀ b, b ∈ l2 → dataLt b.2 p.2 = false) → insK p (l1 ++ l2) = l1 ++ p :: l2
  | [], [], _, _ => rfl
  | [], q :: r, _, h => by
    show (if dataLt q.2 p.2 = true then q :: insK p r else p :: q :: r) = _
    rw [if_neg (by rw [h q List.mem_cons_self]; decide)]; rfl
  | q :: l1, l2, h1, h2 => by
    show (if dataLt q.2 p.2 = true then q :: insK p (l1 ++ l2) else p :: q :: (l1 ++ l2)) = _
    rw [if_pos (h1 q List.mem_cons_self), insK_mid p l1 l2 (fun b hb => h1 b (List.mem_cons_of_mem _ hb)) h2]; rfl
theorem isortK_eq {α : Type} : ∀ l : List (α × PyData), isortK l = l.mergeSort (dataLe false (·.2))
  | [] => by rw [isortK, List.mergeSort_nil]
  | p :: r => by
    obtain ⟨l1, l2, e1, e2, h⟩ := List.mergeSort_cons (le := dataLe false (fun p : α × PyData => p.2)) le_trans' le_total' p r
    have hs := List.pairwise_mergeSort (le := dataLe false (fun p : α × PyData => p.2)) le_trans' le_total' (p :: r)
    rw [e1] at hs
    rw [isortK, isortK_eq r, e2, e1, insK_mid]
    · intro b hb
      have z := h b hb
      rw [PySem.W.dataLe_eq] at z
      have z : (!(!dataLt b.2 p.2)) = true := z
      rw [Bool.not_not] at z; exact z
    · intro b hb
      have z := (List.pairwise_cons.mp (List.pairwise_append.mp hs).2.1).1 b hb
      rw [PySem.W.dataLe_eq] at z
      have z : (!dataLt b.2 p.2) = true := z
      rw [Bool.not_eq_true'] at z; exact z
theorem sortK_eq {α : Type} (l : List α) (kz : List PyData) : sortK l kz = ((l.zip kz).mergeSort (dataLe false (·.2))).map (·.1) := by unfold sortK; rw [isortK_eq]
theorem dataLe_snd {α β : Type} (a b : α × PyData) (c d : β × PyData) (h1 : a.2 = c.2) (h2 : b.2 = d.2) : dataLe false (fun p : α × PyData => p.2) a b = dataLe false (fun p : β × PyData => p.2) c d := by
  rw [PySem.W.dataLe_eq, PySem.W.dataLe_eq]
  show (!dataLt b.2 a.2) = (!dataLt d.2 c.2)
  rw [h1, h2]
theorem sortK_map {α β : Type} (f : α → β) (l : List α) (kz : List PyData) : (sortK l kz).map f = sortK (l.map f) kz := by
  rw [sortK_eq, sortK_eq]
  have e : (l.map f).zip kz = (l.zip kz).map fun p => (f p.1, p.2) := by
    rw [List.zip_map_left]; rfl
  rw [e, ← List.map_mergeSort (r := dataLe false (·.2)) (fun a _ b _ => dataLe_snd a b (f a.1, a.2) (f b.1, b.2) rfl rfl), List.map_map, List.map_map]
  rfl
theorem sortK_mem {α : Type} {l : List α} {kz : List PyData} {x : α} (h : x ∈ sortK l kz) : x ∈ l := by
  rw [sortK_eq] at h
  obtain ⟨p, hp, rfl⟩ := List.mem_map.mp h
  exact (List.of_mem_zip ((List.mergeSort_perm _ _).mem_iff.mp hp)).1
theorem RVs.zipped {G : Gx} {H : Hp} {as : As} : ∀ {l : List D} {xs : List V}, RVs G H as l xs → (∀ p ∈ l.zip xs, RV G H as p.1 p.2) ∧ (l.zip xs).map (·.1) = l ∧ (l.zip xs).map (·.2) = xs
  | _, _, .nil => ⟨fun p hp => by simp at hp, rfl, rfl⟩
  | _, _, .cons a b => by
    obtain ⟨h1, h2, h3⟩ := RVs.zipped b
    refine ⟨fun p hp => ?_, by rw [List.zip_cons_cons, List.map_cons, h2], by rw [List.zip_cons_cons, List.map_cons, h3]⟩
    rw [List.zip_cons_cons] at hp
    rcases List.mem_cons.mp hp with z | z
    · rw [z]; exact a
    · exact h1 p z
theorem RVs.of_all {G : Gx} {H : Hp} {as : As} : ∀ {l : List (D × V)}, (∀ p ∈ l, RV G H as p.1 p.2) → RVs G H as (l.map (·.1)) (l.map (·.2))
  | [], _ => .nil
  | p :: r, h => .cons (h p List.mem_cons_self) (RVs.of_all fun q hq => h q (List.mem_cons_of_mem _ hq))
theorem RVs.sortK {G : Gx} {H : Hp} {as : As} {l : List D} {xs : List V} {kz : List PyData} (q : RVs G H as l xs) : RVs G H as (sortK l kz) (sortedV xs kz) := by
  obtain ⟨h1, h2, h3⟩ := q.zipped
  have e1 : Zp.sortK l kz = (Zp.sortK (l.zip xs) kz).map (·.1) := by rw [sortK_map, h2]
  have e2 : sortedV xs kz = (Zp.sortK (l.zip xs) kz).map (·.2) := by rw [sortK_map, h3, sortK_eq]; rfl
  rw [e1, e2]
  exact RVs.of_all fun p hp => h1 p (sortK_mem hp)
def rSortA (K : PySem.W.Frag) : List V → Hp → VK → Prop := fun vs H Q => ∃ a xs kz, vs = [.ref a] ∧ (SqL K H a xs ∨ ∃ es ep, Rd H a (rawO a es ep) ∧ ∀ us : List Value, us = es.toList.map (·.key) → Vals xs us) ∧ DpAll K H xs kz ∧ okSort kz = true ∧
  ∀ p, H p = none → Q (.ref p) (upd H p (.lst (sortedV xs kz)))
theorem call_sortA {X : Cx} (hc : X.calm = true) (hu : X.A.units + 200 < cLine) : CallR X (.builtin "sorted") (rSortA X.K) := by
  intro pins s σ H vs us Q I r h
  obtain ⟨a, xs, kz, rfl, src, dq, ok, q⟩ := h
  obtain ⟨u, rfl, rx⟩ := r.one
  obtain rfl : u = .ref a := rx
  obtain ⟨o1, o2, o3⟩ := okSort_ok ok
  have hu2 : ∀ d, d ∈ kz → X.A.in1.in1.units + d.depth < cLine := fun d hd => by
    have := o3 d hd
    have e : X.A.in1.in1.units = X.A.units + 2 := rfl
    omega
  rcases src with hs | ⟨es, ep, hd, rk⟩
  · obtain ⟨its, rv, pl, hz⟩ := I.list hs
    have hl : its.length ≤ sizeLine := by rw [← rv.length]; exact hz
    exact sortedI I (coll_list pl.isList hl) hl rv dq o1 o2 hu2 q (args_sorted1 _)
  · obtain ⟨hr, hlo, hz⟩ := raw_at I hd
    exact sortedI I (coll_raw (A := X.A.in1) (show X.A.in1.handled = none from I.ok.hd hc) hlo hr hz) (by rw [List.length_map, Array.length_toList]; exact hz) (rk _ rfl) dq o1 o2 hu2 q (args_sorted1 _)
/-- a list, a dict: its items as data -/
def listedD : D → List Cell → Option (List PyData)
  | .dat (.list l), _ => some l
  | .ref n, st => match st[n]? with
    | some (.lst l) => some l
    | some (.dic _ l) => some (l.map (·.1))
    | _ => none
  | _, _ => none
theorem listed_ok {G : Gx} {H : Hp} {as : As} {st : List Cell} {d : D} {v : V} {l : List PyData} (rs : Rs G as st H) (r : RV G H as d v) (e : listedD d st = some l) : ∃ a xs, v = .ref a ∧ (SqL G.K H a xs ∨ ∃ es ep, Rd H a (rawO a es ep) ∧ ∀ us : List Value, us = es.toList.map (·.key) → Vals xs us) ∧ DqAll G.K H as xs l := by
  unfold listedD at e
  split at e
  · cases e; cases r with | dat r => cases r with | lst h h2 => exact ⟨_, _, rfl, .inl h.sq, h2⟩
  · cases r with
    | @ref n a ea =>
    split at e
    · rename_i l' el
      cases e
      obtain ⟨vs, h1, h2⟩ := rs.cell _ _ _ ea el
      exact ⟨a, vs, rfl, .inl (.inl (.inl h1)), h2⟩
    · rename_i f l' el
      cases e
      obtain ⟨es, ep, kvs, lk, hd⟩ := rs.cell _ _ _ ea el
      obtain ⟨ks, rk, dk⟩ := keys_vals rs hd
      exact ⟨a, ks, rfl, .inr ⟨es, ep, lk_rd lk, rk⟩, dk⟩
    · cases e
  · cases e
def sortD (l : List PyData) : List PyData := sortK l l
theorem DqAll.sorted {G : Gx} {H : Hp} {as : As} {xs : List V} {l kz : List PyData} (q : DqAll G.K H as xs l) : DqAll G.K H as (sortedV xs kz) (sortK l kz) := by
  have h := (RVs.of_dq (G := G) q).sortK (kz := kz)
  rw [← sortK_map] at h
  exact RVs.to_dq h
def sortedO : List D → Mo D := fun ds st => match ds with
  | [d] => match listedD d st with
    | some l => if okSort l = true then .ok (.dat (.list (sortD l))) st else .bad
    | none => .bad
  | _ => .bad
def sortedOM : List D → Mo D := fun ds st => match ds with
  | [d] => match listedD d st with
    | some l => if okSort l = true then .ok (.ref st.length) (st ++ [.lst (sortD l)]) else .bad
    | none => .bad
  | _ => .bad
theorem sortedO_op {G : Gx} : OpN G (rSortA G.K) sortedO := by
  intro H as st xs ds E Q rs ra hp
  unfold sortedO at hp
  split at hp
  · rename_i d
    cases ra with
    | cons r rr =>
    cases rr
    split at hp
    · rename_i l e
      split at hp
      · rename_i ok
        obtain ⟨a, ys, rfl, src, dq⟩ := listed_ok rs r e
        exact ⟨a, ys, l, rfl, src, dq.dp, ok, fun p hn => fin_lst rs hp dq.sorted p hn⟩
      · exact hp.elim
    · exact hp.elim
  · exact hp.elim
theorem sortedOM_op {G : Gx} : OpN G (rSortA G.K) sortedOM := by
  intro H as st xs ds E Q rs ra hp
  unfold sortedOM at hp
  split at hp
  · rename_i d
    cases ra with
    | cons r rr =>
    cases rr
    split at hp
    · rename_i l e
      split at hp
      · rename_i ok
        obtain ⟨a, ys, rfl, src, dq⟩ := listed_ok rs r e
        exact ⟨a, ys, l, rfl, src, dq.dp, ok, fun p hn => fin_ref rs hp dq.sorted p hn⟩
      · exact hp.elim
    · exact hp.elim
  · exact hp.elim
end Zp

set_option Elab.async false
set_option linter.all false
set_option autoImplicit false
set_option maxRecDepth 100000
set_option maxHeartbeats 4000000
namespace Zp
open PySem PySem.Spec PyProof.Rows L2
open PySem.W (dataLe dataLt AllAlike Sortable alike minD maxD AlikeAll)
/-! ### min, max -/
def noNone (l : List PyData) : Bool := l.all fun d => !isNon d
def okMin (l : List PyData) : Bool := alikeB l && noNone l && decide (PyData.depthAll l ≤ 64)
theorem okMin_ok {l : List PyData} (h : okMin l = true) : AlikeAll l ∧ PyData.depthAll l ≤ 64 := by
  unfold okMin alikeB noNone at h
  simp only [Bool.and_eq_true, List.all_eq_true, decide_eq_true_eq] at h
  refine ⟨⟨fun d hd e he => h.1.1 d hd e he, fun d hd e => ?_⟩, h.2⟩
  have := h.1.2 d hd
  rw [e] at this; cases this
theorem minD_mem : ∀ (xs : List PyData) (x : PyData), minD x xs ∈ x :: xs := by
  intro xs
  unfold minD
  induction xs with
  | nil => exact fun x => List.mem_cons_self
  | cons y ys ih =>
    intro x
    rw [List.foldl_cons]
    have := ih (if dataLt y x = true then y else x)
    rcases List.mem_cons.mp this with z | z
    · rw [z]; split <;> simp
    · exact List.mem_cons_of_mem _ (List.mem_cons_of_mem _ z)
theorem maxD_mem : ∀ (xs : List PyData) (x : PyData), maxD x xs ∈ x :: xs := by
  intro xs
  unfold maxD
  induction xs with
  | nil => exact fun x => List.mem_cons_self
  | cons y ys ih =>
    intro x
    rw [List.foldl_cons]
    have := ih (if dataLt x y = true then y else x)
    rcases List.mem_cons.mp this with z | z
    · rw [z]; split <;> simp
    · exact List.mem_cons_of_mem _ (List.mem_cons_of_mem _ z)
def bestD (mx : Bool) : List PyData → Option PyData
  | [] => none
  | x :: xs => some (if mx then maxD x xs else minD x xs)
theorem bestD_mem {mx : Bool} {l : List PyData} {d : PyData} (h : bestD mx l = some d) : d ∈ l := by
  cases l with
  | nil => cases h
  | cons x xs =>
    cases h
    cases mx with
    | true => exact maxD_mem xs x
    | false => exact minD_mem xs x
def rBest (K : PySem.W.Frag) (mx : Bool) : List V → Hp → VK → Prop := fun vs H Q => ∃ a xs l d, vs = [.ref a] ∧ (SqL K H a xs ∨ SqT K H a xs) ∧ DpAll K H xs l ∧ okMin l = true ∧ bestD mx l = some d ∧ ∀ (i : Nat) y, xs[i]? = some y → l[i]? = some d → Q y H
theorem dpAll_at {K : PySem.W.Frag} {H : Hp} : ∀ {xs : List V} {l : List PyData} {i : Nat} {y : V}, DpAll K H xs l → xs[i]? = some y → ∃ d, l[i]? = some d ∧ Dp K H y d
  | _, _, _, _, .nil, e => by simp at e
  | _, _, 0, _, .cons a b, e => by simp at e; subst e; exact ⟨_, rfl, a⟩
  | _, _, i + 1, y, .cons a b, e => by
    obtain ⟨d, h1, h2⟩ := dpAll_at (i := i) (y := y) b (by simpa using e)
    exact ⟨d, by simpa using h1, h2⟩
/-- the item that was found is the least, the greatest -/
theorem best_fin {X : Cx} {pins : List (Addr × Obj)} {σ : L2.St} {H : Hp} {s : Shared} {xs : List V} {l : List PyData} {its : List Value} {d : PyData} {i : Nat} {v : Value} {h' : Heap} {bs : List Addr} (I : L2.Inv X pins σ H s) (rv : Vals xs its) (dq : DpAll X.K H xs l) (ha : AlikeAll l) (hd : d ∈ l)
    (hv : its.toArray[i]? = some v) (rd : Reads h' v d bs) (k : ∀ b o, s.heap.get? b = some o → h'.get? b = some o) : ∃ y, xs[i]? = some y ∧ RelV y v ∧ l[i]? = some d := by
  have hv' : its[i]? = some v := by simpa using hv
  have hi : i < xs.length := by rw [rv.length]; exact (List.getElem?_eq_some_iff.mp hv').1
  have hy : xs[i]? = some xs[i] := List.getElem?_eq_getElem hi
  obtain ⟨u, hu, ru⟩ := rv.get hy
  rw [hv'] at hu; cases hu
  obtain ⟨e, he, de⟩ := dpAll_at dq hy
  obtain ⟨as, r2⟩ := Dp.reads I e _ v de ru
  have := PySem.W.alike_unique d e v bs as (ha.1 d hd e (List.mem_of_getElem? he)) rd (Reads.keeps k r2)
  exact ⟨_, hy, ru, by rw [this]; exact he⟩
theorem call_best {X : Cx} (hc : X.calm = true) (hu : X.A.units + 200 < cLine) (mx : Bool) : CallR X (.builtin (if mx then "max" else "min")) (rBest X.K mx) := by
  intro pins s σ H vs us Q I r h
  obtain ⟨a, xs, l, d, rfl, src, dq, ok, e, q⟩ := h
  obtain ⟨u, rfl, rx⟩ := r.one
  obtain rfl : u = .ref a := rx
  obtain ⟨o1, o2⟩ := okMin_ok ok
  have hd := bestD_mem e
  cases l with
  | nil => cases e
  | cons x l =>
    have hu2 : X.A.units + 1 + PyData.depthAll (x :: l) < cLine := by omega
    rcases src with hs | hs
    · obtain ⟨its, rv, pl, hz⟩ := I.list hs
      obtain ⟨as, hr⟩ := Dp.readsAll I _ _ _ dq rv
      have fin : ∀ (i : Nat) v h' tk bs, its.toArray[i]? = some v → Reads h' v d bs → (∀ b o, s.heap.get? b = some o → h'.get? b = some o) → EP X pins σ Q v { s with heap := h', toks := tk } := fun i v h' tk bs hv rd k => by
        obtain ⟨y, h1, h2, h3⟩ := best_fin I rv dq o1 hd hv rd k
        exact ⟨y, H, I.kept (t' := tk) k, h2, q i y h1 h3⟩
      cases mx with
      | true => cases e; exact PySem.W.max_list_data (I.ok.hd hc) pl.isList (by simpa using hr) o1 hu2 fin
      | false => cases e; exact PySem.W.min_list_data (I.ok.hd hc) pl.isList (by simpa using hr) o1 hu2 fin
    · obtain ⟨its, rv, pl, hz⟩ := I.tuple hs
      obtain ⟨as, hr⟩ := Dp.readsAll I _ _ _ dq rv
      have fin : ∀ (i : Nat) v h' tk bs, its.toArray[i]? = some v → Reads h' v d bs → (∀ b o, s.heap.get? b = some o → h'.get? b = some o) → EP X pins σ Q v { s with heap := h', toks := tk } := fun i v h' tk bs hv rd k => by
        obtain ⟨y, h1, h2, h3⟩ := best_fin I rv dq o1 hd hv rd k
        exact ⟨y, H, I.kept (t' := tk) k, h2, q i y h1 h3⟩
      cases mx with
      | true => cases e; exact PySem.W.max_tuple_data (I.ok.hd hc) pl (by simpa using hr) o1 hu2 fin
      | false => cases e; exact PySem.W.min_tuple_data (I.ok.hd hc) pl (by simpa using hr) o1 hu2 fin
/-- with default= -/
def rBestD (K : PySem.W.Frag) (mx : Bool) : List V → List V → Hp → VK → Prop := fun vs zs H Q => ∃ a xs l z, vs = [.ref a] ∧ zs = [z] ∧ (SqL K H a xs ∨ SqT K H a xs) ∧ DpAll K H xs l ∧ okMin l = true ∧ (l = [] → Q z H) ∧ ∀ d, bestD mx l = some d → ∀ (i : Nat) y, xs[i]? = some y → l[i]? = some d → Q y H
theorem call_bestD {X : Cx} (hc : X.calm = true) (hu : X.A.units + 200 < cLine) (mx : Bool) : CallRK X (.builtin (if mx then "max" else "min")) [Str.ofString "default"] (rBestD X.K mx) := by
  intro pins s σ H vs zs us ws Q I r rz h
  obtain ⟨a, xs, l, z, rfl, rfl, src, dq, ok, q0, q⟩ := h
  obtain ⟨u, rfl, rx⟩ := r.one
  obtain ⟨w, rfl, rw'⟩ := rz.one
  obtain rfl : u = .ref a := rx
  obtain ⟨o1, o2⟩ := okMin_ok ok
  have hu2 : X.A.units + 1 + PyData.depthAll l < cLine := by omega
  have fin0 : l = [] → ∀ h' tk, (∀ b o, s.heap.get? b = some o → h'.get? b = some o) → EP X pins σ Q w { s with heap := h', toks := tk } := fun e h' tk k => ⟨z, H, I.kept (t' := tk) k, rw', q0 e⟩
  have fin1 : ∀ (its : List Value), Vals xs its → ∀ (y : PyData) (ys : List PyData) (i : Nat) v h' tk bs (d : PyData), l = y :: ys → bestD mx l = some d → its.toArray[i]? = some v → Reads h' v d bs → (∀ b o, s.heap.get? b = some o → h'.get? b = some o) → EP X pins σ Q v { s with heap := h', toks := tk } := fun its rv y ys i v h' tk bs d e eb hv rd k => by
    obtain ⟨y', h1, h2, h3⟩ := best_fin I rv dq o1 (bestD_mem eb) hv rd k
    exact ⟨y', H, I.kept (t' := tk) k, h2, q d eb i y' h1 h3⟩
  show wpAny _ _ (call (.builtin (if mx then "max" else "min")) [.ref a] [(Str.ofString "default", w)]) _ _ _
  rcases src with hs | hs
  · obtain ⟨its, rv, pl, hz⟩ := I.list hs
    obtain ⟨as, hr⟩ := Dp.readsAll I _ _ _ dq rv
    cases mx with
    | true => exact PySem.W.max_list_default (I.ok.hd hc) pl.isList (by simpa using hr) o1 hu2 fin0 fun y ys i v h' tk bs e hv rd k => fin1 its rv y ys i v h' tk bs _ e (by rw [e]; rfl) hv rd k
    | false => exact PySem.W.min_list_default (I.ok.hd hc) pl.isList (by simpa using hr) o1 hu2 fin0 fun y ys i v h' tk bs e hv rd k => fin1 its rv y ys i v h' tk bs _ e (by rw [e]; rfl) hv rd k
  · obtain ⟨its, rv, pl, hz⟩ := I.tuple hs
    obtain ⟨as, hr⟩ := Dp.readsAll I _ _ _ dq rv
    cases mx with
    | true => exact PySem.W.max_tuple_default (I.ok.hd hc) pl (by simpa using hr) o1 hu2 fin0 fun y ys i v h' tk bs e hv rd k => fin1 its rv y ys i v h' tk bs _ e (by rw [e]; rfl) hv rd k
    | false => exact PySem.W.min_tuple_default (I.ok.hd hc) pl (by simpa using hr) o1 hu2 fin0 fun y ys i v h' tk bs e hv rd k => fin1 its rv y ys i v h' tk bs _ e (by rw [e]; rfl) hv rd k
/-- the items of a list or tuple as data -/
def seqD : D → List Cell → Option (List PyData)
  | .dat (.list l), _ => some l
  | .dat (.tuple l), _ => some l
  | .ref n, st => match st[n]? with
    | some (.lst l) => some l
    | _ => none
  | _, _ => none
theorem seqD_ok {G : Gx} {H : Hp} {as : As} {st : List Cell} {d : D} {v : V} {l : List PyData} (rs : Rs G as st H) (r : RV G H as d v) (e : seqD d st = some l) : ∃ a xs, v = .ref a ∧ (SqL G.K H a xs ∨ SqT G.K H a xs) ∧ DqAll G.K H as xs l := by
  unfold seqD at e
  split at e
  · cases e; cases r with | dat r => cases r with | lst h h2 => exact ⟨_, _, rfl, .inl h.sq, h2⟩
  · cases e; cases r with | dat r => cases r with | tup h h2 => exact ⟨_, _, rfl, .inr h.sq, h2⟩
  · cases r with
    | @ref n a ea =>
    split at e
    · rename_i l' el
      cases e
      obtain ⟨vs, h1, h2⟩ := rs.cell _ _ _ ea el
      exact ⟨a, vs, rfl, .inl (.inl (.inl h1)), h2⟩
    · cases e
  · cases e
def bestO (mx : Bool) : List D → Mo D := fun ds st => match ds with
  | [d] => match seqD d st with
    | some l => if okMin l = true then (match bestD mx l with
      | some x => .ok (.dat x) st
      | none => .bad) else .bad
    | none => .bad
  | _ => .bad
def bestDO (mx : Bool) : List D → List D → Mo D := fun ds zs st => match ds, zs with
  | [d], [z] => match seqD d st with
    | some l => if okMin l = true then (match bestD mx l with
      | some x => .ok (.dat x) st
      | none => .ok z st) else .bad
    | none => .bad
  | _, _ => .bad
theorem bestO_op {G : Gx} {mx : Bool} : OpN G (rBest G.K mx) (bestO mx) := by
  intro H as st xs ds E Q rs ra hp
  unfold bestO at hp
  split at hp
  · rename_i d
    cases ra with
    | cons r rr =>
    cases rr
    split at hp
    · rename_i l e
      split at hp
      · rename_i ok
        obtain ⟨a, ys, rfl, src, dq⟩ := seqD_ok rs r e
        split at hp
        · rename_i x eb
          exact ⟨a, ys, l, x, rfl, src, dq.dp, ok, eb, fun i y h1 h2 => by
            obtain ⟨x', e1, q⟩ := dq.get' h1
            rw [h2] at e1; cases e1
            exact hp as y H (Gr.refl _ _) rs (.dat q)⟩
        · exact hp.elim
      · exact hp.elim
    · exact hp.elim
  · exact hp.elim
/-- a call with keywords -/
def OpK (G : Gx) (r : List V → List V → Hp → VK → Prop) (op : List D → List D → Mo D) : Prop := ∀ (H : Hp) (as : As) (st : List Cell) (xs zs : List V) (ds es : List D) (E : XK) (Q : VK), Rs G as st H → RVs G H as ds xs → RVs G H as es zs → Post G (RV G) H as E Q (op ds es st) → r xs zs H Q
theorem bestDO_op {G : Gx} {mx : Bool} : OpK G (rBestD G.K mx) (bestDO mx) := by
  intro H as st xs zs ds es E Q rs ra rz hp
  unfold bestDO at hp
  split at hp
  · rename_i d z
    cases ra with
    | cons r rr =>
    cases rr
    cases rz with
    | cons r2 rr =>
    cases rr
    split at hp
    · rename_i l e
      split at hp
      · rename_i ok
        obtain ⟨a, ys, rfl, src, dq⟩ := seqD_ok rs r e
        refine ⟨a, ys, l, _, rfl, rfl, src, dq.dp, ok, fun e0 => ?_, fun d' eb i y h1 h2 => ?_⟩
        · subst e0
          exact hp as _ H (Gr.refl _ _) rs r2
        · rw [eb] at hp
          obtain ⟨x', e1, q⟩ := dq.get' h1
          rw [h2] at e1; cases e1
          exact hp as y H (Gr.refl _ _) rs (.dat q)
      · exact hp.elim
    · exact hp.elim
  · exact hp.elim
def cBK (op : List D → List D → Mo D) (f g : Ev → Mo (List D)) (ρ : Ev) : Mo D := fun st => (f ρ st).bind fun ds st1 => (g ρ st1).bind fun zs st2 => op ds zs st2
section
variable {G : Gz} {X : Cx} {W : WX} {k : Nat} {x : Str} {p pos kpos : Pos} {e : Expr} {es : List Expr} {kws : List Keyword} {id : String} {ks : List Str} {nm : Option Str} {r : List V → List V → Hp → VK → Prop} {op : List D → List D → Mo D} {f g : Ev → Mo (List D)} {c : Ev → Mo D}
theorem PK.imp {t t' : TA} (h : PK X kws t) (k : ∀ σ H Q, t' σ H Q → t σ H Q) : PK X kws t' := ⟨fun p pins s σ H Q I q => h.run p pins s σ H Q I (k σ H Q q)⟩
theorem sk_nil : PK X [] (tA G W cNil) := PK.imp pk_nil fun σ H Q ⟨ρ, as, st, re, rs, hp⟩ => fin_as rs hp .nil
theorem sk_cons (ha : PE X e (tE G W c)) (hr : PK X kws (tA G W g)) : PK X (⟨nm, e, kpos⟩ :: kws) (tA G W (cCons c g)) := PK.imp (pk_cons ha hr) fun σ H Q ⟨ρ, as, st, re, rs, hp⟩ =>
  ⟨ρ, as, st, re, rs, (Post.bind hp).mono fun x H1 ⟨a, as1, st1, _, g1, rs1, ra, hp1⟩ => ⟨ρ, as1, st1, re.gr g1, rs1, (Post.bind hp1).mono fun xs H2 ⟨ds, as2, st2, _, g2, rs2, rb, hp2⟩ => fin_as rs2 hp2 (.cons (ra.gr g2) rb)⟩⟩
theorem se_callBK (hc : CallRK X (.builtin id) ks r) (hr : OpK G.toGx r op) (hg : Gl X x) (hm : X.mg x = none) (hv : bootBuiltins x = some (.builtin id)) (ha : PA X (e :: es) (tA G W f)) (hk : PK X kws (tA G W g)) (hn : x ≠ "__name__" := by decide) (hdb : (x == ("__debug__" : Str)) = false := by decide)
    (he : backTo pos (starEach (e :: es) X.env) = (false, eval e X.env) :: backTo pos (starEach es X.env) := by rfl) (hpl : (backTo pos (starEach (e :: es) X.env)).any (·.1) = false := by rfl)
    (hall : (backToKw pos (keywordEach kws X.env)).all (·.1.isSome) = true := by rfl) (hnone : (backToKw pos (keywordEach kws X.env)).any (·.1.isNone) = false := by rfl) (hks : (backToKw pos (keywordEach kws X.env)).filterMap (·.1) = ks := by rfl) :
    PE X (.Call (.Name x p) (e :: es) kws pos) (tE G W (cBK op f g)) := PE.imp (pe_callBK hc hg hm hv ha hk hn hdb he hpl hall hnone hks) fun σ H Q ⟨ρ, as, st, re, rs, hp⟩ =>
  ⟨ρ, as, st, re, rs, (Post.bind hp).mono fun xs H1 ⟨ds, as1, st1, _, g1, rs1, ra, hp1⟩ => ⟨ρ, as1, st1, re.gr g1, rs1, (Post.bind hp1).mono fun zs H2 ⟨es, as2, st2, _, g2, rs2, rb, hp2⟩ => hr H2 as2 st2 xs zs ds es _ Q rs2 (RVs.gr g2 ra) rb hp2⟩⟩
end
end Zp

set_option Elab.async false
set_option linter.all false
set_option autoImplicit false
set_option maxRecDepth 100000
set_option maxHeartbeats 4000000
namespace Zp
open PySem PySem.Spec PyProof.Rows L2
/-! ### isinstance -/
def tyN : PyData → Option String
  | .none => some "NoneType"
  | .bool _ => some "bool"
  | .int _ => some "int"
  | .str _ => some "str"
  | .list _ => some "list"
  | .tuple _ => some "tuple"
  | _ => none
def tyName : D → List Cell → Option String
  | .dat x, _ => tyN x
  | .tup _, _ => some "tuple"
  | .lst _, _ => some "list"
  | .ref n, st => match st[n]? with
    | some (.lst _) => some "list"
    | some (.dic _ _) => some "dict"
    | _ => none
  | .obj _ _, _ => none
def isB (a T : String) : Bool := a == T || (a == "bool" && T == "int")
theorem isB_ok : ∀ T ∈ ["int", "bool", "str", "tuple", "list", "dict"], ∀ a ∈ ["NoneType", "bool", "int", "str", "list", "tuple", "dict"], kitB a T = some (isB a T) := by decide +kernel
structure InsOk (K : PySem.W.Frag) (C : Addr) : Prop where
  cls : L2.Cls K C
  ha : PySem.W.findIn K (.ref C) "__class__" = some (some (.builtin "object.__class__"))
  hn : PySem.W.specialIn K (.builtin "object.__class__") "__get__" = some (some (.builtin "getset_descriptor.__get__"))
  ht : PySem.W.takesIn K (.builtin "object.__class__") = some true
  hm : PySem.W.mroIn K C (.type "object") = some true
/-- the own classes whose instances stand among the values -/
structure InsF (G : Gx) : Prop where
  ok : ∀ c ∈ G.cl, ∀ C, G.mg c = some (.ref C) → InsOk G.K C
  ty : ∀ c ∈ G.cl, ∀ C, G.mg c = some (.ref C) → ∀ T ∈ ["int", "bool", "str", "tuple", "list", "dict"], PySem.W.kitOne G.K (.ref C) (.type T) = some false
/-- the classes are told apart -/
structure IsC (G : Gx) (c : Str) (C : Addr) : Prop where
  ty : ∀ a ∈ ["NoneType", "bool", "int", "str", "list", "tuple", "dict"], PySem.W.kitOne G.K (.type a) (.ref C) = some false
  own : ∀ c' ∈ G.cl, ∀ C', G.mg c' = some (.ref C') → PySem.W.kitOne G.K (.ref C') (.ref C) = some (c' == c)
def rIsA (K : PySem.W.Frag) : List V → Hp → VK → Prop := fun xs H Q => rIsi K xs H Q ∨ ∃ a es ep c u b, xs = [.ref a, c] ∧ ClsV c u ∧ Rd H a (rawO a es ep) ∧ PySem.W.kitOne K (.type "dict") u = some b ∧ Q (.bl b) H
theorem call_isA {X : Cx} : CallR X (.builtin "isinstance") (rIsA X.K) := CallR.or call_isi fun pins s σ H xs us Q I r h => by
  obtain ⟨a, es, ep, c, u, b, rfl, k, hd, e, q⟩ := h
  obtain ⟨u1, u2, rfl, r1, r2⟩ := r.two
  obtain rfl : u1 = Value.ref a := r1
  have e2 := k.eq r2
  subst e2
  obtain ⟨⟨o, ho, hx, _⟩, _, _⟩ := raw_at I hd
  exact PySem.W.kia_one PySem.W.kitx_dict I.kIn ⟨o, ho, hx.1⟩ e (fun z => nomatch z) fun tk => ⟨.bl b, H, I.tok tk, rfl, q⟩
/-- a value's type, as isinstance asks it -/
theorem ty_ok {G : Gx} {H : Hp} {as : As} {st : List Cell} {d : D} {v c : V} {u : Value} {a : String} {b : Bool} {Q : VK} (rs : Rs G as st H) (r : RV G H as d v) (e : tyName d st = some a) (k : ClsV c u) (hk : a ∈ ["NoneType", "bool", "int", "str", "list", "tuple", "dict"] → PySem.W.kitOne G.K (.type a) u = some b) (q : Q (.bl b) H) : rIsA G.K [v, c] H Q := by
  have sl : ∀ {a' : Addr} {xs : List V}, SL G.K H as a' xs → a = "list" → v = .ref a' → rIsA G.K [v, c] H Q := fun {a' xs} h ea ev => by
    subst ea ev
    have hk := hk (by decide)
    rcases h with ⟨_, h | ⟨o, h⟩⟩ | ⟨o, its, n, h1, h2, h3, _⟩
    · exact .inl ⟨_, c, _, u, b, rfl, k, .base (.lst h), hk, q⟩
    · exact .inl ⟨_, c, _, u, b, rfl, k, .base (.frz h), hk, q⟩
    · exact .inl ⟨_, c, _, u, b, rfl, k, .kList h1 h2, hk, q⟩
  have tu : ∀ {a' : Addr} {xs : List V}, ST G.K H as a' xs → a = "tuple" → v = .ref a' → rIsA G.K [v, c] H Q := fun {a' xs} h ea ev => by
    subst ea ev
    have hk := hk (by decide)
    rcases h with ⟨_, h | ⟨o, h⟩⟩ | ⟨o, its, n, h1, h2, h3, _⟩
    · exact .inl ⟨_, c, _, u, b, rfl, k, .base (.tup h), hk, q⟩
    · exact .inl ⟨_, c, _, u, b, rfl, k, .fTuple h, hk, q⟩
    · exact .inl ⟨_, c, _, u, b, rfl, k, .kTuple h1 h2, hk, q⟩
  cases r with
  | dat r =>
    cases r with
    | non => cases e; exact .inl ⟨_, c, _, u, b, rfl, k, .base .non, hk (by decide), q⟩
    | bl x => cases e; exact .inl ⟨_, c, _, u, b, rfl, k, .base (.bl x), hk (by decide), q⟩
    | int x => cases e; exact .inl ⟨_, c, _, u, b, rfl, k, .base (.int x), hk (by decide), q⟩
    | str x => cases e; exact .inl ⟨_, c, _, u, b, rfl, k, .base (.str x), hk (by decide), q⟩
    | lst h _ => cases e; exact sl h.sl rfl rfl
    | tup h _ => cases e; exact tu h rfl rfl
  | @ref n a' ea =>
    have e : (match st[n]? with
      | some (.lst _) => some "list"
      | some (.dic _ _) => some "dict"
      | _ => none) = some a := e
    split at e
    · rename_i l el
      cases e
      obtain ⟨vs, h1, h2⟩ := rs.cell _ _ _ ea el
      exact .inl ⟨_, c, _, u, b, rfl, k, .base (.lst h1), hk (by decide), q⟩
    · rename_i f l el
      cases e
      obtain ⟨es, ep, kvs, lk, hd⟩ := rs.cell _ _ _ ea el
      exact .inr ⟨a', es, ep, c, u, b, rfl, k, lk_rd lk, hk (by decide), q⟩
    · cases e
  | obj _ _ _ _ _ _ => cases e
  | tup h _ => cases e; exact tu h rfl rfl
  | lst h _ => cases e; exact sl h rfl rfl
def isTO (T : String) : D → Mo D := fun d st => match tyName d st with
  | some a => .ok (.dat (.bool (isB a T))) st
  | none => match d with
    | .obj _ _ => .ok (.dat (.bool false)) st
    | _ => .bad
def isCO (c : Str) : D → Mo D := fun d st => match tyName d st with
  | some _ => .ok (.dat (.bool false)) st
  | none => match d with
    | .obj c' _ => .ok (.dat (.bool (c' == c))) st
    | _ => .bad
theorem obj_ty {G : Gx} {H : Hp} {as : As} {c' : Str} {fs : List (Str × D)} {v c : V} {u : Value} {b : Bool} {Q : VK} (F : InsF G) (r : RV G H as (.obj c' fs) v) (k : ClsV c u) (hk : ∀ C', c' ∈ G.cl → G.mg c' = some (.ref C') → PySem.W.kitOne G.K (.ref C') u = some b) (q : Q (.bl b) H) : rIsA G.K [v, c] H Q := by
  cases r with
  | @obj _ _ a C dx vfs h0 h1 h2 h3 h4 h5 =>
    have o := F.ok c' h0 C h1
    exact .inl ⟨_, c, _, u, b, rfl, k, .base (.ins h2 o.cls o.ha o.hn o.ht o.hm), hk C h0 h1, q⟩
theorem isTO_op {G : Gx} {T : String} (F : InsF G) (hT : T ∈ ["int", "bool", "str", "tuple", "list", "dict"]) : Op1 G (fun x H Q => rIsA G.K [x, .ty T] H Q) (isTO T) := by
  intro H as st x d E Q rs r hp
  unfold isTO at hp
  split at hp
  · rename_i a e
    exact ty_ok rs r e (.ty T) (fun ha => kit_ty (isB_ok T hT a ha)) (hp as _ H (Gr.refl _ _) rs (.dat (.bl _)))
  · split at hp
    · exact obj_ty F r (.ty T) (fun C' h0 h1 => F.ty _ h0 C' h1 T hT) (hp as _ H (Gr.refl _ _) rs (.dat (.bl _)))
    · exact hp.elim
theorem isCO_op {G : Gx} {c : Str} {C : Addr} (F : InsF G) (I : IsC G c C) : Op1 G (fun x H Q => rIsA G.K [x, .ref C] H Q) (isCO c) := by
  intro H as st x d E Q rs r hp
  unfold isCO at hp
  split at hp
  · rename_i a e
    exact ty_ok rs r e (.own C) (fun ha => I.ty a ha) (hp as _ H (Gr.refl _ _) rs (.dat (.bl _)))
  · split at hp
    · exact obj_ty F r (.own C) (fun C' h0 h1 => I.own _ h0 C' h1) (hp as _ H (Gr.refl _ _) rs (.dat (.bl _)))
    · exact hp.elim
section
variable {G : Gz} {X : Cx} {W : WX} {p p2 pos : Pos} {e e2 : Expr} {f : Ev → Mo D} {T : String} {c : Str} {C : Addr} {x : Str}
theorem is_imp {r : List V → Hp → VK → Prop} {v : V} {op : D → Mo D} (hr : Op1 G.toGx (fun x H Q => r [x, v] H Q) op) (σ : L2.St) (H : Hp) (Q : VK) (h : tE G W (cOp1 op f) σ H Q) : tCB r (tCons (tE G W f) (tCons (tC v) tNil)) σ H Q := by
  obtain ⟨ρ, as, st, re, rs, hp⟩ := h
  exact ⟨ρ, as, st, re, rs, (Post.bind hp).mono fun x H1 ⟨a, as1, st1, _, g1, rs1, ra, hp1⟩ => hr H1 as1 st1 x a _ Q rs1 ra hp1⟩
theorem se_isT (F : Fits G X) (I : InsF G.toGx) (hg : Gl X "isinstance") (hm : X.mg "isinstance" = none) (he : PE X e (tE G W f)) (hgT : Gl X x) (hmT : X.mg x = none) (hv : bootBuiltins x = some (.type T)) (hT : T ∈ ["int", "bool", "str", "tuple", "list", "dict"] := by decide)
    (hnT : x ≠ "__name__" := by decide) (hdT : (x == ("__debug__" : Str)) = false := by decide) (hs : starEach [e, .Name x p2] X.env = (false, eval e X.env) :: starEach [.Name x p2] X.env := by rfl) (hs2 : starEach [.Name x p2] X.env = (false, eval (.Name x p2) X.env) :: starEach [] X.env := by rfl) (hpl : (backTo pos (starEach [.Name x p2] X.env)).any (·.1) = false := by rfl) :
    PE X (.Call (.Name "isinstance" p) [e, .Name x p2] [] pos) (tE G W (cOp1 (isTO T) f)) := by
  have h := isTO_op (G := G.toGx) I hT
  rw [← F.K] at h
  exact PE.imp (pe_callB call_isA hg hm boot_isinstance (pa_cons he (pa_cons (pe_bltn (v := .ty T) hgT hmT hv rfl hnT hdT) pa_nil hs2) hs) (by decide) (by decide) hs hpl) (is_imp h)
theorem se_isC (F : Fits G X) (I : InsF G.toGx) (hC : IsC G.toGx c C) (hg : Gl X "isinstance") (hm : X.mg "isinstance" = none) (he : PE X e (tE G W f)) (hgC : Gl X c) (hmC : X.mg c = some (.ref C))
    (hdT : (c == ("__debug__" : Str)) = false := by decide) (hs : starEach [e, .Name c p2] X.env = (false, eval e X.env) :: starEach [.Name c p2] X.env := by rfl) (hs2 : starEach [.Name c p2] X.env = (false, eval (.Name c p2) X.env) :: starEach [] X.env := by rfl) (hpl : (backTo pos (starEach [.Name c p2] X.env)).any (·.1) = false := by rfl) :
    PE X (.Call (.Name "isinstance" p) [e, .Name c p2] [] pos) (tE G W (cOp1 (isCO c) f)) := by
  have h := isCO_op (G := G.toGx) I hC
  rw [← F.K] at h
  exact PE.imp (pe_callB call_isA hg hm boot_isinstance (pa_cons he (pa_cons (pe_glob (v := .ref C) hgC hmC rfl hdT) pa_nil hs2) hs) (by decide) (by decide) hs hpl) (is_imp h)
end
/-! ### slices -/
def partD : D → Option Int
  | .dat (.int i) => some i
  | _ => none
/-- a bound that is written, or none -/
def oN (_ : Ev) : Mo (Option Int) := ret none
def oS (f : Ev → Mo D) (ρ : Ev) : Mo (Option Int) := fun st => (f ρ st).bind fun d st1 => match d with
  | .dat (.int i) => .ok (some i) st1
  | _ => .bad
def cutL {α : Type} (l : List α) (lo hi : Option Int) : List α := (l.drop (HT.sIx l.length 0 lo)).take (HT.sIx l.length l.length hi - HT.sIx l.length 0 lo)
def sliceO (d : D) (lo hi : Option Int) : Mo D := fun st => match d with
  | .tup l => .ok (mkTup (cutL l lo hi)) st
  | .lst l => .ok (mkLst (cutL l lo hi)) st
  | .dat (.list l) => .ok (.dat (.list (cutL l lo hi))) st
  | .dat (.tuple l) => .ok (.dat (.tuple (cutL l lo hi))) st
  | .dat (.str x) => if x.length ≤ lim then .ok (.dat (.str (cutS x lo hi))) st else .bad
  | .ref n => match st[n]? with
    | some (.lst l) => .ok (.dat (.list (cutL l lo hi))) st
    | _ => .bad
  | _ => .bad
def cSl (f : Ev → Mo D) (lo hi : Ev → Mo (Option Int)) (ρ : Ev) : Mo D := fun st => (f ρ st).bind fun d st1 => (lo ρ st1).bind fun l st2 => (hi ρ st2).bind fun h st3 => sliceO d l h st3
def tO (G : Gz) (W : WX) (f : Ev → Mo (Option Int)) : TO := fun σ H Q => ∃ ρ as st, RE G H as ρ σ ∧ Rs G as st H ∧ Post G (fun _ _ d v => d = v) H as (fun c d H' => W c d σ H') Q (f ρ st)
def rSliceA (K : PySem.W.Frag) : V → Option Int → Option Int → Hp → VK → Prop := fun x lo hi H Q => rSlL K x lo hi H Q ∨ rSlA K x lo hi H Q ∨ rSlS x lo hi H Q
theorem DqAll.cut {K : PySem.W.Frag} {H : Hp} {as : As} {vs : List V} {l : List PyData} (q : DqAll K H as vs l) (lo hi : Option Int) : DqAll K H as (cutV vs lo hi) (cutL l lo hi) := by
  unfold cutV cutL
  rw [q.length]
  exact (q.drop _).take _
theorem RVs.take {G : Gx} {H : Hp} {as : As} : ∀ {d : List D} {v : List V} (n : Nat), RVs G H as d v → RVs G H as (d.take n) (v.take n)
  | _, _, 0, _ => .nil
  | _, _, _ + 1, .nil => .nil
  | _, _, n + 1, .cons a b => .cons a (RVs.take n b)
theorem RVs.drop {G : Gx} {H : Hp} {as : As} : ∀ {d : List D} {v : List V} (n : Nat), RVs G H as d v → RVs G H as (d.drop n) (v.drop n)
  | _, _, 0, h => h
  | _, _, _ + 1, .nil => .nil
  | _, _, n + 1, .cons a b => RVs.drop n b
theorem RVs.cutted {G : Gx} {H : Hp} {as : As} {vs : List V} {l : List D} (q : RVs G H as l vs) (lo hi : Option Int) : RVs G H as (cutL l lo hi) (cutV vs lo hi) := by
  unfold cutV cutL
  rw [q.length]
  exact (q.drop _).take _
theorem cutL_all {α : Type} {l : List α} {lo hi : Option Int} (h : HT.sIx l.length 0 lo = 0 ∧ HT.sIx l.length l.length hi = l.length) : cutL l lo hi = l := by
  unfold cutL
  rw [h.1, h.2]; simp
theorem slice_ok {G : Gx} {H : Hp} {as : As} {st : List Cell} {d : D} {v : V} {lo hi : Option Int} {E : XK} {Q : VK} (rs : Rs G as st H) (r : RV G H as d v) (hp : Post G (RV G) H as E Q (sliceO d lo hi st)) : rSliceA G.K v lo hi H Q := by
  unfold sliceO at hp
  split at hp
  · cases r with
    | tup h q =>
      refine .inr (.inl ⟨_, _, rfl, h.sq, fun w => ?_, fun w p hn => fin_tupD rs hp (q.cutted lo hi) p hn⟩)
      rw [← q.length] at w
      rw [cutL_all w] at hp
      unfold mkTup at hp
      cases e : datAll _ with
      | some m =>
        rw [e] at hp
        rw [datAll_some e] at q
        exact hp as _ H (Gr.refl _ _) rs (.dat (.tup h (RVs.to_dq q)))
      | none => rw [e] at hp; exact hp as _ H (Gr.refl _ _) rs (.tup h q)
  · cases r with
    | lst h q => exact .inl ⟨_, _, rfl, h.sq, fun p hn => fin_lstD rs hp (q.cutted lo hi) p hn⟩
  · cases r with
    | dat r => cases r with
      | lst h q => exact .inl ⟨_, _, rfl, h.sq, fun p hn => fin_lst rs hp (q.cut lo hi) p hn⟩
  · cases r with
    | dat r => cases r with
      | tup h q =>
        refine .inr (.inl ⟨_, _, rfl, h.sq, fun w => ?_, fun w p hn => fin_tup rs hp (q.cut lo hi) p hn⟩)
        rw [q.length] at w
        rw [cutL_all w] at hp
        exact hp as _ H (Gr.refl _ _) rs (.dat (.tup h q))
  · cases r with
    | dat r => cases r with
      | str =>
        split at hp
        · rename_i hz
          exact .inr (.inr ⟨_, rfl, by rw [← lim_eq]; exact hz, hp as _ H (Gr.refl _ _) rs (.dat (.str _))⟩)
        · exact hp.elim
  · cases r with
    | @ref n a ea =>
      split at hp
      · rename_i l el
        obtain ⟨vs, h1, h2⟩ := rs.cell _ _ _ ea el
        exact .inl ⟨_, _, rfl, .inl (.inl h1), fun p hn => fin_lst rs hp (h2.cut lo hi) p hn⟩
      · exact hp.elim
  · exact hp.elim
section
variable {G : Gz} {X : Cx} {W : WX} {p2 pos : Pos} {e : Expr} {lo hi : Option Expr} {f c : Ev → Mo D} {fl fh : Ev → Mo (Option Int)}
theorem PO.imp {t t' : TO} (h : PO X lo t) (k : ∀ σ H Q, t' σ H Q → t σ H Q) : PO X lo t' := ⟨fun pins s σ H Q I q => h.run pins s σ H Q I (k σ H Q q)⟩
theorem so_none : PO X none (tO G W oN) := PO.imp po_none fun σ H Q ⟨ρ, as, st, re, rs, hp⟩ => hp as none H (Gr.refl _ _) rs rfl
theorem so_some (h : PE X e (tE G W c)) : PO X (some e) (tO G W (oS c)) := PO.imp (po_some h) fun σ H Q ⟨ρ, as, st, re, rs, hp⟩ =>
  ⟨ρ, as, st, re, rs, (Post.bind hp).mono fun x H1 ⟨d, as1, st1, e0, g1, rs1, ra, hp1⟩ => by
    clear e0
    split at hp1
    · rename_i i
      cases ra with
      | dat r => cases r with
        | int => exact ⟨i, rfl, hp1 as1 _ H1 (Gr.refl _ _) rs1 rfl⟩
    · exact hp1.elim⟩
theorem se_slice (F : Fits G X) (he : PE X e (tE G W f)) (hl : PO X lo (tO G W fl)) (hh : PO X hi (tO G W fh)) : PE X (.Subscript e (.Slice lo hi none p2) pos) (tE G W (cSl f fl fh)) := by
  have eK := F.K
  refine PE.imp (pe_slice (SlR.or sl_list (SlR.or sl_tupA sl_str)) he hl hh) ?_
  rw [eK]
  intro σ H Q ⟨ρ, as, st, re, rs, hp⟩
  exact ⟨ρ, as, st, re, rs, (Post.bind hp).mono fun x H1 ⟨d, as1, st1, _, g1, rs1, ra, hp1⟩ => ⟨ρ, as1, st1, re.gr g1, rs1, (Post.bind hp1).mono fun l H2 ⟨l', as2, st2, _, g2, rs2, el, hp2⟩ => ⟨ρ, as2, st2, (re.gr g1).gr g2, rs2, (Post.bind hp2).mono fun h H3 ⟨h', as3, st3, _, g3, rs3, eh, hp3⟩ => by
    subst el eh
    exact slice_ok rs3 ((ra.gr g2).gr g3) hp3⟩⟩⟩
end
end Zp

set_option Elab.async false
set_option linter.all false
set_option autoImplicit false
set_option maxRecDepth 100000
set_option maxHeartbeats 4000000
namespace Zp
open PySem PySem.Spec PyProof.Rows L2
/-! ### methods of built-in types -/
abbrev Sel := V → Hp → (V → List V → Hp → VK → Prop) → Prop
/-- what a method's name finds at a receiver -/
def MSel (X : Cx) (name : Str) (sel : Sel) : Prop := ∀ (pins : List (Addr × Obj)) (s : Shared) (σ : L2.St) (H : Hp) (x : V) (v : Value) (r : V → List V → Hp → VK → Prop), L2.Inv X pins σ H s → RelV x v → sel x H r →
  ∃ T id, PlainAttrs T ∧ Slot T name id ∧ typeOf (.builtin id) = pure (.type "method_descriptor") ∧ s.TypeIs v T ∧ (∀ a, v = .ref a → ∃ ob, s.heap.get? a = some ob ∧ ob.dict = none) ∧ MtR X id r
def tMe (sel : Sel) (to : TE) (t : TA) : TE := fun σ H Q => to σ H fun x H1 => ∃ r, sel x H1 r ∧ t σ H1 fun xs H2 => r x xs H2 Q
section
variable {X : Cx} {o e : Expr} {es : List Expr} {to : TE} {t : TA} {name : Str} {apos cpos : Pos} {sel sel' : Sel}
theorem pe_me0 (hm : MSel X name sel) (ho : PE X o to) (hbase : attributeBase o name X.env (eval o X.env) = eval o X.env := by rfl) (hline : (apos.endLine == cpos.line) = true := by rfl) : PE X (.Call (.Attribute o name apos) [] [] cpos) (tMe sel to tNil) := by
  refine ⟨fun pins s σ H Q I h => ?_⟩
  refine wpAny_Call_method0_late hbase hline (thn (ho.run pins s σ H _ I h) fun v s1 ⟨x, H1, I1, r1, r, hs, q1⟩ => ?_)
  obtain ⟨T, id, pa, slot, hty, h1, h2, mt⟩ := hm pins s1 σ H1 x v r I1 r1 hs
  exact ⟨T, id, pa, slot, hty, h1, h2, Calls.callWith_builtin rfl (PySem.evalArgs_none (mt pins s1 σ H1 x [] v [] Q I1 r1 .nil q1))⟩
theorem pe_me (hm : MSel X name sel) (ho : PE X o to) (ha : PA X (e :: es) t) (hbase : attributeBase o name X.env (eval o X.env) = eval o X.env := by rfl)
    (hfew : ((backTo cpos (starEach (e :: es) X.env)).all (fun x => !x.1) && (backToKw cpos (keywordEach [] X.env)).all (fun x => x.1.isSome) && decide ((e :: es).length + ([] : List Keyword).length + (if ([] : List Keyword).isEmpty then 0 else 1) < 30)) = true := by rfl)
    (hline : (apos.endLine == cpos.line) = true := by rfl) (hst : starEach (e :: es) X.env = (false, eval e X.env) :: starEach es X.env := by rfl) (hpl : (backTo cpos (starEach es X.env)).any (·.1) = false := by rfl) :
    PE X (.Call (.Attribute o name apos) (e :: es) [] cpos) (tMe sel to t) := by
  refine ⟨fun pins s σ H Q I h => ?_⟩
  refine wpAny_Call_method_late hbase hfew hline rfl (thn (ho.run pins s σ H _ I h) fun v s1 ⟨x, H1, I1, r1, r, hs, q1⟩ => ?_)
  obtain ⟨T, id, pa, slot, hty, h1, h2, mt⟩ := hm pins s1 σ H1 x v r I1 r1 hs
  refine ⟨T, id, pa, slot, hty, h1, h2, ?_⟩
  have hA := ha.run cpos pins s1 σ H1 _ I1 q1
  rw [hst] at hA ⊢
  refine Calls.callWith_builtin (by show (false || (backTo cpos (starEach es X.env)).any (·.1)) = false; rw [hpl] <;> rfl) (Calls.evalArgs_plain ?_)
  exact thn hA fun us s2 ⟨vs, H2, I2, r2, q2⟩ => mt pins s2 σ H2 x vs v us Q I2 r1 r2 q2
theorem MSel.or (h : MSel X name sel) (h' : MSel X name sel') : MSel X name fun x H r => sel x H r ∨ sel' x H r := fun pins s σ H x v r I rx q => q.elim (h pins s σ H x v r I rx) (h' pins s σ H x v r I rx)
/-- a changeable list -/
def selL (r : V → List V → Hp → VK → Prop) : Sel := fun x H r' => r' = r ∧ ∃ a xs, x = .ref a ∧ H a = some (.lst xs)
theorem msel_L {id : String} {r : V → List V → Hp → VK → Prop} (slot : Slot "list" name id) (ty : typeOf (.builtin id) = pure (.type "method_descriptor")) (mt : MtR X id r) : MSel X name (selL r) := by
  intro pins s σ H x v r' I rx ⟨er, a, xs, ex, ha⟩
  subst er ex
  obtain rfl : v = Value.ref a := rx
  obtain ⟨z, its, n, rv, hl, e⟩ := I.lstM ha
  exact ⟨"list", id, F.plainAttrs_list, slot, ty, ⟨_, e, rfl⟩, fun b q => by cases q; exact ⟨_, e, rfl⟩, mt⟩
/-- a text -/
def selS (r : V → List V → Hp → VK → Prop) : Sel := fun x H r' => r' = r ∧ ∃ a, x = .str a
theorem msel_S {id : String} {r : V → List V → Hp → VK → Prop} (slot : Slot "str" name id) (ty : typeOf (.builtin id) = pure (.type "method_descriptor")) (mt : MtR X id r) : MSel X name (selS r) := by
  intro pins s σ H x v r' I rx ⟨er, a, ex⟩
  subst er ex
  obtain ⟨t, rfl⟩ := rx
  exact ⟨"str", id, F.plainAttrs_str, slot, ty, typeIs_str _ _ _, fun _ e => (nomatch e), mt⟩
/-- a dict -/
def selN (r : V → List V → Hp → VK → Prop) : Sel := fun x H r' => r' = r ∧ ∃ a, x = .ref a ∧ IsN H a
theorem msel_N {id : String} {r : V → List V → Hp → VK → Prop} (slot : Slot "dict" name id) (ty : typeOf (.builtin id) = pure (.type "method_descriptor")) (mt : MtR X id r) : MSel X name (selN r) := by
  intro pins s σ H x v r' I rx ⟨er, a, ex, hd⟩
  subst er ex
  obtain rfl : v = Value.ref a := rx
  obtain ⟨h1, h2⟩ := isN_at I hd
  exact ⟨"dict", id, F.plainAttrs_dict, slot, ty, h1, h2, mt⟩
end
/-- a method, plain: the receiver, the arguments -/
def cMe (ok : D → List Cell → Bool) (op : D → List D → Mo D) (f : Ev → Mo D) (fs : Ev → Mo (List D)) (ρ : Ev) : Mo D := fun st => (f ρ st).bind fun d st1 => if ok d st1 = true then (fs ρ st1).bind fun ds st2 => op d ds st2 else .bad
def OpM (G : Gx) (sel : Sel) (ok : D → List Cell → Bool) (op : D → List D → Mo D) : Prop := ∀ (H : Hp) (as : As) (st : List Cell) (x : V) (d : D), Rs G as st H → RV G H as d x → ok d st = true →
  ∃ r, sel x H r ∧ ∀ (H2 : Hp) (as2 : As) (st2 : List Cell) (xs : List V) (ds : List D) (E : XK) (Q : VK), Rs G as2 st2 H2 → RV G H2 as2 d x → RVs G H2 as2 ds xs → Post G (RV G) H2 as2 E Q (op d ds st2) → r x xs H2 Q
section
variable {G : Gz} {X : Cx} {W : WX} {o e : Expr} {es : List Expr} {name : Str} {apos cpos : Pos} {sel : Sel} {ok : D → List Cell → Bool} {op : D → List D → Mo D} {f : Ev → Mo D} {fs : Ev → Mo (List D)}
theorem me_imp (hr : OpM G.toGx sel ok op) (σ : L2.St) (H : Hp) (Q : VK) (h : tE G W (cMe ok op f fs) σ H Q) : tMe sel (tE G W f) (tA G W fs) σ H Q := by
  obtain ⟨ρ, as, st, re, rs, hp⟩ := h
  refine ⟨ρ, as, st, re, rs, (Post.bind hp).mono fun x H1 ⟨d, as1, st1, _, g1, rs1, ra, hp1⟩ => ?_⟩
  by_cases hk : ok d st1 = true
  · rw [if_pos hk] at hp1
    obtain ⟨r, hs, hq⟩ := hr H1 as1 st1 x d rs1 ra hk
    exact ⟨r, hs, ρ, as1, st1, re.gr g1, rs1, (Post.bind hp1).mono fun xs H2 ⟨ds, as2, st2, _, g2, rs2, rb, hp2⟩ => hq H2 as2 st2 xs ds _ Q rs2 (ra.gr g2) rb hp2⟩
  · rw [if_neg hk] at hp1; exact hp1.elim
theorem se_me (hm : MSel X name sel) (hr : OpM G.toGx sel ok op) (ho : PE X o (tE G W f)) (ha : PA X (e :: es) (tA G W fs)) (hbase : attributeBase o name X.env (eval o X.env) = eval o X.env := by rfl)
    (hfew : ((backTo cpos (starEach (e :: es) X.env)).all (fun x => !x.1) && (backToKw cpos (keywordEach [] X.env)).all (fun x => x.1.isSome) && decide ((e :: es).length + ([] : List Keyword).length + (if ([] : List Keyword).isEmpty then 0 else 1) < 30)) = true := by rfl)
    (hline : (apos.endLine == cpos.line) = true := by rfl) (hst : starEach (e :: es) X.env = (false, eval e X.env) :: starEach es X.env := by rfl) (hpl : (backTo cpos (starEach es X.env)).any (·.1) = false := by rfl) :
    PE X (.Call (.Attribute o name apos) (e :: es) [] cpos) (tE G W (cMe ok op f fs)) := PE.imp (pe_me hm ho ha hbase hfew hline hst hpl) (me_imp hr)
theorem se_me0 (hm : MSel X name sel) (hr : OpM G.toGx sel ok op) (ho : PE X o (tE G W f)) (hbase : attributeBase o name X.env (eval o X.env) = eval o X.env := by rfl) (hline : (apos.endLine == cpos.line) = true := by rfl) :
    PE X (.Call (.Attribute o name apos) [] [] cpos) (tE G W (cMe ok op f cNil)) := PE.imp (pe_me0 hm ho hbase hline) fun σ H Q h => by
  obtain ⟨ρ, as, st, re, rs, hp⟩ := me_imp hr σ H Q h
  refine ⟨ρ, as, st, re, rs, hp.mono fun x H1 ⟨r, hs, ρ', as', st', re', rs', hp'⟩ => ⟨r, hs, fin_as rs' hp' .nil⟩⟩
end
/-! lists -/
def isLc : D → List Cell → Bool
  | .ref n, st => match st[n]? with
    | some (.lst _) => true
    | _ => false
  | _, _ => false
theorem isLc_ok {G : Gx} {H : Hp} {as : As} {st : List Cell} {d : D} {x : V} (rs : Rs G as st H) (r : RV G H as d x) (h : isLc d st = true) : ∃ a xs, x = .ref a ∧ H a = some (.lst xs) := by
  unfold isLc at h
  split at h
  · split at h
    · rename_i el
      cases r with
      | @ref n a ea =>
        obtain ⟨vs, h1, _⟩ := rs.cell _ _ _ ea el
        exact ⟨a, vs, rfl, h1⟩
    · cases h
  · cases h
/-- an operation on the list at n -/
def onL (g : List PyData → List D → Option (D × List PyData)) : D → List D → Mo D := fun d ds st => match d with
  | .ref n => match st[n]? with
    | some (.lst l) => match g l ds with
      | some (z, l') => .ok z (st.set n (.lst l'))
      | none => .bad
    | _ => .bad
  | _ => .bad
theorem onL_op {G : Gx} {r : V → List V → Hp → VK → Prop} {g : List PyData → List D → Option (D × List PyData)}
    (h : ∀ (H : Hp) (as : As) (a : Addr) (vs xs : List V) (l l' : List PyData) (ds : List D) (z : D) (Q : VK), H a = some (.lst vs) → DqAll G.K H as vs l → RVs G H as ds xs → g l ds = some (z, l') →
      (∀ v vs', RV G H as z v → DqAll G.K H as vs' l' → Q v (upd H a (.lst vs'))) → r (.ref a) xs H Q) : OpM G (selL r) isLc (onL g) := by
  intro H as st x d rs rd hk
  obtain ⟨a, xs, rfl, ha⟩ := isLc_ok rs rd hk
  refine ⟨r, ⟨rfl, a, xs, rfl, ha⟩, fun H2 as2 st2 ys ds E Q rs2 rd2 ra hp => ?_⟩
  unfold onL at hp
  split at hp
  · rename_i n
    cases rd2 with
    | ref ea =>
    split at hp
    · rename_i l el
      obtain ⟨vs, h1, h2⟩ := rs2.cell _ _ _ ea el
      split at hp
      · rename_i z l' eg
        refine h H2 as2 a vs ys l l' ds z Q h1 h2 ra eg fun v vs' rv dq => ?_
        have g' := Gr.mut (o := .lst vs') rs2 (List.mem_of_getElem? ea) ⟨_, h1, id⟩
        exact hp as2 v _ g' (rs2.mut (c := .lst l') ea ⟨_, h1, id⟩ ⟨vs', upd_same, dq.gr g'⟩) (rv.gr g')
      · exact hp.elim
    · exact hp.elim
  · exact hp.elim
def appG (l : List PyData) : List D → Option (D × List PyData)
  | [.dat x] => if l.length < lim then some (.dat .none, l ++ [x]) else none
  | _ => none
theorem app_op {G : Gx} : OpM G (selL rAppend) isLc (onL appG) := onL_op fun H as a vs xs l l' ds z Q ha dq ra e q => by
  unfold appG at e
  split at e
  · rename_i x
    split at e
    · rename_i hl
      cases e
      cases ra with
      | cons r rr =>
      cases rr
      cases r with
      | dat r => exact ⟨a, vs, _, rfl, rfl, ha, by rw [dq.length, ← lim_eq]; exact hl, q .non _ (.dat .non) (dq.append (.cons r .nil))⟩
    · cases e
  · cases e
def popG (l : List PyData) : List D → Option (D × List PyData)
  | [] => match l[l.length - 1]? with
    | some x => some (.dat x, l.dropLast)
    | none => none
  | [.dat (.int i)] => if -(2 ^ 63) ≤ i ∧ i < 2 ^ 63 then (match seqIndex? i l.length with
    | some k => match l[k]? with
      | some x => some (.dat x, l.eraseIdx k)
      | none => none
    | none => none) else none
  | _ => none
theorem DqAll.dropLast {K : PySem.W.Frag} {H : Hp} {as : As} {vs : List V} {l : List PyData} (q : DqAll K H as vs l) : DqAll K H as vs.dropLast l.dropLast := by
  rw [List.dropLast_eq_take, List.dropLast_eq_take, q.length]; exact q.take _
theorem pop_op {G : Gx} : OpM G (selL fun x xs H Q => rPop x xs H Q ∨ rPopAt x xs H Q) isLc (onL popG) := onL_op fun H as a vs xs l l' ds z Q ha dq ra e q => by
  unfold popG at e
  split at e
  · cases ra
    split at e
    · rename_i x ex
      cases e
      obtain ⟨y, h1, h2⟩ := dq.get ex
      exact .inl ⟨a, vs, y, rfl, rfl, ha, by rw [dq.length]; exact h1, q y _ (.dat h2) dq.dropLast⟩
    · cases e
  · rename_i i
    split at e
    · rename_i hb
      cases ra with
      | cons r rr =>
      cases rr
      cases r with
      | dat r =>
      cases r with
      | int =>
      split at e
      · rename_i k ek
        split at e
        · rename_i x ex
          cases e
          obtain ⟨y, h1, h2⟩ := dq.get ex
          exact .inr ⟨a, vs, i, k, y, rfl, rfl, ha, hb.1, hb.2, by rw [dq.length]; exact ek, h1, q y _ (.dat h2) (dq.eraseIdx k)⟩
        · cases e
      · cases e
    · cases e
  · cases e
section
variable {X : Cx}
theorem ms_append : MSel X "append" (selL rAppend) := msel_L F.slot_list_append F.type_list_append mt_append
theorem ms_pop : MSel X "pop" (selL fun x xs H Q => rPop x xs H Q ∨ rPopAt x xs H Q) := msel_L F.slot_list_pop F.type_list_pop (MtR.or mt_pop mt_popAt)
end
/-! texts -/
def isSt : D → List Cell → Bool
  | .dat (.str _), _ => true
  | _, _ => false
theorem selS_op {G : Gx} {r : V → List V → Hp → VK → Prop} {op : D → List D → Mo D} (h : ∀ (H : Hp) (as : As) (st : List Cell) (x : Str) (xs : List V) (ds : List D) (E : XK) (Q : VK), Rs G as st H → RVs G H as ds xs → Post G (RV G) H as E Q (op (.dat (.str x)) ds st) → r (.str x) xs H Q) : OpM G (selS r) isSt op := by
  intro H as st x d rs rd hk
  unfold isSt at hk
  split at hk
  · cases rd with
    | dat rd => cases rd with
      | str =>
        exact ⟨r, ⟨rfl, _, rfl⟩, fun H2 as2 st2 xs ds E Q rs2 _ ra hp => h H2 as2 st2 _ xs ds E Q rs2 ra hp⟩
  · cases hk
def splitO : D → List D → Mo D := fun d ds st => match d, ds with
  | .dat (.str a), [.dat (.str b)] => if (b.length == 0) = false ∧ a.length + 2 ≤ lim then .ok (.dat (.list ((Txt.split a b).map .str))) st else .bad
  | _, _ => .bad
theorem strs_dq {K : PySem.W.Frag} {H : Hp} {as : As} : ∀ l : List Str, DqAll K H as (l.map V.str) (l.map .str)
  | [] => .nil
  | x :: r => .cons (.str x) (strs_dq r)
theorem split_op {G : Gx} : OpM G (selS fun x xs H Q => ∃ a b, x = .str a ∧ xs = [.str b] ∧ (b.length == 0) = false ∧ a.length + 2 ≤ sizeLine ∧ rNewStrs (Txt.split a b) H Q) isSt splitO := selS_op fun H as st x xs ds E Q rs ra hp => by
  unfold splitO at hp
  split at hp
  · rename_i a b ed
    cases ed
    split at hp
    · rename_i hc
      cases ra with
      | cons r rr =>
      cases rr
      cases r with
      | dat r => cases r with
        | str => exact ⟨_, _, rfl, rfl, hc.1, by rw [← lim_eq]; exact hc.2, fun p hn => fin_lst rs hp (strs_dq _) p hn⟩
    · exact hp.elim
  · exact hp.elim
def strsOf : List PyData → Option (List Str)
  | [] => some []
  | .str i :: r => (strsOf r).map (i :: ·)
  | _ => none
theorem strsOf_ok {K : PySem.W.Frag} {H : Hp} {as : As} : ∀ {l : List PyData} {ns : List Str} {vs : List V}, strsOf l = some ns → DqAll K H as vs l → vs = ns.map V.str
  | [], _, _, e, .nil => by cases e; rfl
  | .str i :: r, _, _, e, .cons a b => by
    simp only [strsOf, Option.map_eq_some_iff] at e
    obtain ⟨m, e1, rfl⟩ := e
    cases a
    rw [strsOf_ok e1 b]; rfl
  | .none :: _, _, _, e, _ => by cases e
  | .bool _ :: _, _, _, e, _ => by cases e
  | .int _ :: _, _, _, e, _ => by cases e
  | .list _ :: _, _, _, e, _ => by cases e
  | .tuple _ :: _, _, _, e, _ => by cases e
def joinO : D → List D → Mo D := fun d ds st => match d, ds with
  | .dat (.str a), [l] => match seqD l st with
    | some m => match strsOf m with
      | some ys => if (ys.map (·.length)).sum + ys.length * a.length ≤ 16777216 then .ok (.dat (.str (Txt.join a ys))) st else .bad
      | none => .bad
    | none => .bad
  | _, _ => .bad
theorem join_op {G : Gx} : OpM G (selS fun x xs H Q => ∃ a p, ∃ ys : List Str, x = .str a ∧ xs = [.ref p] ∧ (SqL G.K H p (ys.map V.str) ∨ SqT G.K H p (ys.map V.str)) ∧ (ys.map (·.length)).sum + ys.length * a.length ≤ 16777216 ∧ Q (.str (Txt.join a ys)) H) isSt joinO := selS_op fun H as st x xs ds E Q rs ra hp => by
  unfold joinO at hp
  split at hp
  · rename_i a l ed
    cases ed
    cases ra with
    | cons r rr =>
    cases rr
    split at hp
    · rename_i m em
      obtain ⟨p, vs, rfl, src, dq⟩ := seqD_ok rs r em
      split at hp
      · rename_i ys ey
        rw [strsOf_ok ey dq] at src
        split at hp
        · rename_i hz
          exact ⟨_, p, ys, rfl, rfl, src, hz, hp as _ H (Gr.refl _ _) rs (.dat (.str _))⟩
        · exact hp.elim
      · exact hp.elim
    · exact hp.elim
  · exact hp.elim
section
variable {X : Cx}
theorem ms_split : MSel X "split" (selS fun x xs H Q => ∃ a b, x = .str a ∧ xs = [.str b] ∧ (b.length == 0) = false ∧ a.length + 2 ≤ sizeLine ∧ rNewStrs (Txt.split a b) H Q) := msel_S F.slot_str_split F.type_str_split mt_split
theorem ms_join : MSel X "join" (selS fun x xs H Q => ∃ a p, ∃ ys : List Str, x = .str a ∧ xs = [.ref p] ∧ (SqL X.K H p (ys.map V.str) ∨ SqT X.K H p (ys.map V.str)) ∧ (ys.map (·.length)).sum + ys.length * a.length ≤ 16777216 ∧ Q (.str (Txt.join a ys)) H) := msel_S F.slot_str_join F.type_str_join mt_join
end
/-! dicts -/
def isDc : D → List Cell → Bool
  | .ref n, st => match st[n]? with
    | some (.dic _ _) => true
    | _ => false
  | _, _ => false
theorem isDc_ok {G : Gx} {H : Hp} {as : As} {st : List Cell} {d : D} {x : V} (rs : Rs G as st H) (r : RV G H as d x) (h : isDc d st = true) : ∃ a, x = .ref a ∧ IsN H a := by
  unfold isDc at h
  split at h
  · split at h
    · rename_i el
      cases r with
      | @ref n a ea =>
        obtain ⟨es, ep, kvs, lk, _⟩ := rs.cell _ _ _ ea el
        exact ⟨a, rfl, es, ep, lk_rd lk⟩
    · cases h
  · cases h
def getO : D → List D → Mo D := fun d ds st => match d with
  | .ref n => match st[n]? with
    | some (.dic _ l) => match ds with
      | [.dat k] => if okK l k = true then .ok (.dat ((findD l k).getD .none)) st else .bad
      | [.dat k, z] => if okK l k = true then (match findD l k with
        | some x => .ok (.dat x) st
        | none => .ok z st) else .bad
      | _ => .bad
    | _ => .bad
  | _ => .bad
def rGetA (K : PySem.W.Frag) (w : World) : V → List V → Hp → VK → Prop := fun x xs H Q => rGet1N K w x xs H Q ∨ rGet2N K w x xs H Q
theorem get_op {G : Gx} : OpM G (selN (rGetA G.K G.w)) isDc getO := by
  intro H as st x d rs rd hk
  obtain ⟨a, rfl, hd⟩ := isDc_ok rs rd hk
  refine ⟨_, ⟨rfl, a, rfl, hd⟩, fun H2 as2 st2 xs ds E Q rs2 rd2 ra hp => ?_⟩
  unfold getO at hp
  split at hp
  · rename_i n
    cases rd2 with
    | ref ea =>
    split at hp
    · rename_i f l el
      split at hp
      · rename_i k
        split at hp
        · rename_i ok
          cases ra with
          | cons r rr =>
          cases rr
          cases r with
          | dat r =>
          obtain ⟨o, hg, hm⟩ := dic_get rs2 ea el ok r
          refine .inl ⟨a, _, o, rfl, rfl, hg, ?_⟩
          cases hf : findD l k with
          | none =>
            rw [hf] at hm hp
            cases o with
            | none => exact hp as2 _ H2 (Gr.refl _ _) rs2 (.dat .non)
            | some v => exact hm.elim
          | some z =>
            rw [hf] at hm hp
            cases o with
            | none => exact hm.elim
            | some v => exact hp as2 _ H2 (Gr.refl _ _) rs2 (.dat hm)
        · exact hp.elim
      · rename_i k z
        split at hp
        · rename_i ok
          cases ra with
          | cons r rr =>
          cases rr with
          | cons r2 rr =>
          cases rr
          cases r with
          | dat r =>
          obtain ⟨o, hg, hm⟩ := dic_get rs2 ea el ok r
          refine .inr ⟨a, _, _, o, rfl, rfl, hg, ?_⟩
          cases hf : findD l k with
          | none =>
            rw [hf] at hm hp
            cases o with
            | none => exact hp as2 _ H2 (Gr.refl _ _) rs2 r2
            | some v => exact hm.elim
          | some z =>
            rw [hf] at hm hp
            cases o with
            | none => exact hm.elim
            | some v => exact hp as2 _ H2 (Gr.refl _ _) rs2 (.dat hm)
        · exact hp.elim
      · exact hp.elim
    · exact hp.elim
  · exact hp.elim
theorem ms_get {X : Cx} (hu : X.A.units + 9 < cLine) : MSel X "get" (selN (rGetA X.K X.w)) := msel_N F.slot_dict_get F.type_dict_get (MtR.or (mt_get1N hu) (mt_get2N hu))
end Zp

set_option Elab.async false
set_option linter.all false
set_option autoImplicit false
set_option maxRecDepth 100000
set_option maxHeartbeats 4000000
namespace Zp
open PySem PySem.Spec PyProof.Rows L2
/-! ### a base that pins more -/
structure Ext (b b' : Heap) : Prop where
  k : ∀ a o, b.get? a = some o → b'.get? a = some o
  sz : b.objs.size ≤ b'.objs.size
theorem Ext.refl (b : Heap) : Ext b b := ⟨fun _ _ e => e, Nat.le_refl _⟩
theorem Ext.trans {a b c : Heap} (x : Ext a b) (y : Ext b c) : Ext a c := ⟨fun p o e => y.k p o (x.k p o e), Nat.le_trans x.sz y.sz⟩
theorem Ext.mod {K : PySem.W.Frag} {mg : Str → Option Value} {b b' : Heap} (x : Ext b b') (m : L2.Mod K mg b) : L2.Mod K mg b' :=
  ⟨m.kin.keeps x.k, m.glob.keeps x.k, let ⟨mb, h, q⟩ := m.blt; ⟨mb, h.keeps x.k, q⟩, m.nolimit.keeps x.k⟩
theorem Ext.env0 {P : Program} {w : World} {K : PySem.W.Frag} {mg : Str → Option Value} {b b' : Heap} {A : Around} {outer : List Env} {s : Shared} {H : Hp} (x : Ext b b') (m : L2.Mod K mg b) (e : Env0 P w K mg b' A outer s H) : Env0 P w K mg b A outer s H := by
  refine ⟨e.frames, m, fun a o h => e.bs a o (x.k a o h), Nat.le_trans x.sz e.bsz, funFrames_none e.funs fun L hL => ?_, e.frf, e.hok, e.bare⟩
  cases q : b.get? L with
  | none => rfl
  | some o =>
    have z := x.k _ _ q
    rw [(e.funs.mem hL).1] at z
    cases z
def frd : Obj := { cls := .none, data := .freed }
/-- base b with what stands at cs in h -/
def pinB (b h : Heap) (cs : List Addr) : Heap := ⟨((List.range h.objs.size).map fun a => match b.get? a with
  | some o => o
  | none => if a ∈ cs then (match h.get? a with
    | some o => o
    | none => frd) else frd).toArray, {}⟩
theorem get_raw {h : Heap} {a : Addr} {o : Obj} : h.get? a = some o ↔ h.objs[a]? = some o ∧ o.data ≠ .freed := by
  unfold Heap.get?
  constructor
  · intro e
    split at e
    · cases e
    · rename_i x hx
      refine ⟨e, fun z => ?_⟩
      rcases o with ⟨a1, a2, a3, a4⟩
      cases z
      exact hx _ _ _ e
  · rintro ⟨e, n⟩
    rw [e]
    rcases o with ⟨a1, a2, a3, a4⟩
    cases a3 <;> first | rfl | exact absurd rfl n
theorem pin_size (b h : Heap) (cs : List Addr) : (pinB b h cs).objs.size = h.objs.size := by unfold pinB; simp
theorem pin_raw {b h : Heap} {cs : List Addr} {a : Addr} (l : a < h.objs.size) : (pinB b h cs).objs[a]? = some (match b.get? a with
  | some o => o
  | none => if a ∈ cs then (match h.get? a with
    | some o => o
    | none => frd) else frd) := by
  unfold pinB
  simp [l]
theorem pin_get {b h : Heap} {cs : List Addr} {a : Addr} {o : Obj} (e : (pinB b h cs).get? a = some o) : b.get? a = some o ∨ (a ∈ cs ∧ h.get? a = some o) := by
  have l : a < h.objs.size := by rw [← pin_size b h cs]; exact Heap.lt_size e
  obtain ⟨e1, e2⟩ := get_raw.mp e
  rw [pin_raw l] at e1
  cases q : b.get? a with
  | some u => rw [q] at e1; cases e1; exact .inl rfl
  | none =>
    rw [q] at e1
    by_cases hc : a ∈ cs
    · cases q2 : h.get? a with
      | some u => rw [q2] at e1; simp only [if_pos hc] at e1; cases e1; exact .inr ⟨hc, rfl⟩
      | none => rw [q2] at e1; simp only [if_pos hc] at e1; cases e1; exact absurd rfl e2
    · simp only [if_neg hc] at e1; cases e1; exact absurd rfl e2
theorem pin_to {b h : Heap} {cs : List Addr} {a : Addr} {o : Obj} (k : ∀ a o, b.get? a = some o → h.get? a = some o) (e : h.get? a = some o) (hc : a ∈ cs ∨ b.get? a = some o) : (pinB b h cs).get? a = some o := by
  refine get_raw.mpr ⟨?_, (get_raw.mp e).2⟩
  rw [pin_raw (Heap.lt_size e)]
  cases q : b.get? a with
  | some u =>
    have z := k _ _ q
    rw [e] at z; cases z; rfl
  | none =>
    rcases hc with hc | hc
    · simp only [if_pos hc, e]
    · rw [q] at hc; cases hc
theorem pin_ext {b h : Heap} {cs : List Addr} (k : ∀ a o, b.get? a = some o → h.get? a = some o) (sz : b.objs.size ≤ h.objs.size) : Ext b (pinB b h cs) :=
  ⟨fun a o e => pin_to k (k a o e) (.inr e), by rw [pin_size]; exact sz⟩

section
variable {X : Cx} {pins : List (Addr × Obj)} {σ : L2.St} {H : Hp} {s : Shared}
/-- the running frame's cells, as they are now -/
structure PinX (X : Cx) (σ : L2.St) (b : Heap) : Prop where
  ext : Ext X.base b
  cell : ∀ x c, X.env.cells.lookup x = some c → ∃ v, b.IsCell c v
  val : ∀ (j : Nat) (x : Str) (v : V), X.N[j]? = some x → σ[j]? = some (some v) → (X.env.scope.names.lookup x = some .cell ∨ X.env.scope.names.lookup x = some .free) → ∃ c u, X.env.cells.lookup x = some c ∧ L2.RelV v u ∧ b.IsCell c (some u)
def cellsOf (X : Cx) : List Addr := X.env.cells.filterMap fun p => X.env.cells.lookup p.1
theorem cellsOf_mem {c : Addr} (h : c ∈ cellsOf X) : ∃ x, X.env.cells.lookup x = some c := by
  obtain ⟨p, _, e⟩ := List.mem_filterMap.mp h
  exact ⟨_, e⟩
theorem mem_cellsOf {x : Str} {c : Addr} (h : X.env.cells.lookup x = some c) : c ∈ cellsOf X := List.mem_filterMap.mpr ⟨(x, c), PySem.mem_of_lookup h, h⟩
abbrev pinH (X : Cx) (s : Shared) : Heap := pinB X.base s.heap (cellsOf X)
theorem pinH_ok (hfn : ∀ x, X.fn x = true) (I : L2.Inv X pins σ H s) : PinX X σ (pinH X s) ∧ Env0 X.prog X.w X.K X.mg (pinH X s) X.A X.stack s H := by
  have xt : Ext X.base (pinH X s) := pin_ext I.bk (Nat.le_trans I.ok.bsz I.sz)
  have nofs : ∀ x c, X.env.cells.lookup x = some c → c ∉ X.fs := fun x c e hb => by
    obtain ⟨_, o, ho, _⟩ := I.ok.funs.mem hb
    exact absurd (Nat.lt_of_lt_of_le (Heap.lt_size ho) (I.ok.cab x c (hfn x) e)) (Nat.lt_irrefl _)
  have ce : ∀ x c, X.env.cells.lookup x = some c → ∀ v, s.heap.IsCell c v → (pinH X s).IsCell c v := fun x c e v ⟨o, ho, hd⟩ => ⟨o, pin_to I.bk ho (.inl (mem_cellsOf e)), hd⟩
  refine ⟨⟨xt, fun x c e => ?_, fun j x v e1 e2 k => ?_⟩, ⟨I.ok.frames, xt.mod I.ok.mod, fun a o e => ?_, by rw [pin_size]; exact Nat.le_refl _, ?_, I.stkFree, I.hok, I.bare⟩⟩
  · obtain ⟨v, z⟩ := I.cell x c e
    exact ⟨v, ce x c e v z⟩
  · obtain ⟨m, hn, hl⟩ := I.loc
    obtain ⟨u, r, l⟩ := hl j x v e1 e2 (k.elim (fun z => .inr (.inl z)) fun z => .inr (.inr z))
    rcases l with ⟨z, _⟩ | ⟨_, c, hc, hz⟩
    · have z : X.env.scope.names.lookup x = some .local := z
      rcases k with k | k <;> rw [k] at z <;> cases z
    · exact ⟨c, u, hc, r, ce x c hc _ hz⟩
  · rcases pin_get e with z | ⟨z1, z2⟩
    · exact I.bs a o z
    · obtain ⟨x, hx⟩ := cellsOf_mem z1
      exact ⟨z2, I.freeC x a hx⟩
  · refine funFrames_none I.stack fun L hL => ?_
    cases q : (pinH X s).get? L with
    | none => rfl
    | some o =>
      rcases pin_get q with z | ⟨z1, z2⟩
      · have := (I.stack.mem hL).1
        rw [z] at this; cases this
      · obtain ⟨x, hx⟩ := cellsOf_mem z1
        rcases List.mem_cons.mp (I.stkSub L hL) with z | z
        · exact absurd z (I.cne x L hx)
        · exact absurd z (nofs x L hx)

/-! ### a lambda is made -/
/-- the object at f is the lambda F -/
def LamO (f : Addr) (F : NdefX.NF) (body : Expr) : HO := .ext fun h => ∃ (od : Option Addr) (sl : Array (Option Value)) (pm ctv : Value), h.get? f = some (⟨.type "function", od, .func (PySem.W.kla_fn "<lambda>" F.qual F.params body F.scope F.cl pm (.ref F.c) ctv), sl⟩ : Obj)
theorem inv_lam {f : Addr} {F : NdefX.NF} {body : Expr} {t' : Nat} {pm ctv : Value} (I : L2.Inv X pins σ H s) (hf : f = s.heap.objs.size) :
    L2.Inv X pins σ (upd H f (LamO f F body)) { s with heap := s.heap.push (PySem.W.kla_obj "<lambda>" F.qual F.params body F.scope F.cl pm F.c ctv), toks := t' } := by
  subst hf
  have e := Heap.get?_push_size s.heap (o := PySem.W.kla_obj "<lambda>" F.qual F.params body F.scope F.cl pm F.c ctv) rfl
  exact I.laid (a := s.heap.objs.size) (fun b u z => Heap.get?_push_of_some _ z) (Nat.le_refl _) ⟨⟨_, _, pm, ctv, e⟩, ⟨_, e⟩, fun h1 h2 ⟨od, sl, p, t, z⟩ st => ⟨od, sl, p, t, st _ z⟩⟩
abbrev lamF (X : Cx) (params : Arguments) (scope : Scope) (c : Addr) : NdefX.NF := ⟨"<lambda>", X.env.qual ++ "<lambda>", params, [], scope, cloFrom X.env.cells scope.names [], c⟩
theorem ext_upd {H1 : Hp} {f : Addr} {o : HO} (e : LamX.ExtN H H1) (n : H1 f = none) : LamX.ExtN H (upd H1 f o) := fun b u z t => by
  have q := e b u z t
  rw [upd_ne (ne_of_none q n)]; exact q
theorem lam_mk {T : List (Addr × Str)} {c P : Addr} {params : Arguments} {body : Expr} {scope : Scope} {pos : Pos} {E : Value → Shared → Prop} {Q : Value → Shared → Prop} (I : L2.Inv X pins σ H s) (TB : LamX.TabB X.base X.mg c P) (hcode : X.env.code = .ref c)
    (hm : (P, X.env.qual ++ "<lambda>") ∈ T) (hu : ∀ p ∈ T, p.1 = P → p.2 = X.env.qual ++ "<lambda>") (hT : LamX.Tabs T H) (hdef : defaultsOf params X.env = ([], [])) (hfree : ∀ y ∈ scope.names, y.2 = .free → ∃ c, X.env.cells.lookup y.1 = some c)
    (h : ∀ (f c' : Addr) (H1 : Hp) (s' : Shared), L2.Inv X pins σ H1 s' → LamX.ExtN H H1 → LamX.Tabs T H1 → H f = none → H1 f = some (LamO f (lamF X params scope c') body) → H1 c' = some (LamX.CodeO c' (X.env.qual ++ "<lambda>")) → Q (.ref f) s') :
    wpAny (model X.prog X.w) X.A (eval (.Lambda params body scope pos) X.env) Q E s := by
  obtain ⟨ps, tP, tr, told⟩ := hT _ hm
  have blt := TB.bm.keeps I.bk
  have objP : s.heap.get? P = some { cls := .none, data := .fields ps } := I.hok P _ tP
  refine PySem.W.kla_eval hdef ?_
  cases am : codeAmong pos ps.toList with
  | some cv =>
    obtain ⟨c', rfl, co⟩ := told pos cv am
    refine PySem.W.kla_makeFunctionHit (mg := X.mg) (c := c) (P := P) (ps := ps) (closure_ok hfree) I.ok.glob (I.mod.glob.keeps I.bk) hcode (TB.code.keeps I.bk) objP tr am blt fun ctv h' tk old _ => ?_
    have I1 : L2.Inv X pins σ H { s with heap := h', toks := tk } := I.kept old
    have nf := I1.hok.fresh (Nat.le_refl _)
    exact h _ c' _ _ (inv_lam (t' := tk) (F := lamF X params scope c') I1 rfl) (ext_upd (LamX.ExtN.refl H) nf) (tabs_upd hT nf) nf upd_same ((upd_ne (ne_of_none co nf)).trans co)
  | none =>
    refine PySem.W.kla_makeFunction (mg := X.mg) (c := c) (P := P) (ps := ps) (closure_ok hfree) I.ok.glob (I.mod.glob.keeps I.bk) hcode (TB.code.keeps I.bk) objP tr am TB.gP blt fun c' ctv h' tk old ge lt ⟨c2, oc, vs, t, e2, hoc, hd, hv⟩ tb => ?_
    cases e2
    have nc : H c' = none := I.hok.fresh ge
    have I1 := LamX.inv_table (t' := tk) (q := X.env.qual ++ "<lambda>") (more := #[rawInt pos.line, rawInt pos.col, .ref c']) (h' := h') I tP (fun b o hb e => old b o hb e) tb ge ⟨oc, vs, t, hoc, hd, hv⟩
    have ex : LamX.ExtN H (upd (upd H P (.tbl (ps ++ #[rawInt pos.line, rawInt pos.col, .ref c']))) c' (LamX.CodeO c' (X.env.qual ++ "<lambda>"))) := fun b o e n => by
      rw [upd_ne (ne_of_none e nc), upd_ne fun z => by subst z; rw [tP] at e; cases e; exact n _ rfl]
      exact e
    have nf := I1.hok.fresh (Nat.le_refl _)
    have lst : (ps ++ #[rawInt pos.line, rawInt pos.col, .ref c']).toList = ps.toList ++ [rawInt pos.line, rawInt pos.col, .ref c'] := by simp
    have T1 : LamX.Tabs T (upd (upd H P (.tbl (ps ++ #[rawInt pos.line, rawInt pos.col, .ref c']))) c' (LamX.CodeO c' (X.env.qual ++ "<lambda>"))) := fun p hp => by
      by_cases hb : p.1 = P
      · rw [hu p hp hb, hb]
        refine ⟨_, by rw [upd_ne (ne_of_none tP nc), upd_same], by rw [lst]; exact PySem.TriplesOk_snoc _ _ _ _ tr, fun p' cv hcv => ?_⟩
        rw [lst] at hcv
        rcases LamX.among_app _ tr hcv with z | z
        · obtain ⟨c0, e1, e2⟩ := told p' cv z
          exact ⟨c0, e1, ex _ _ e2 LamX.codeO_ne⟩
        · exact ⟨c', z, upd_same⟩
      · obtain ⟨qs, a1, a2, a3⟩ := hT p hp
        refine ⟨qs, by rw [upd_ne (ne_of_none a1 nc), upd_ne hb]; exact a1, a2, fun p' cv hcv => ?_⟩
        obtain ⟨c0, e1, e2⟩ := a3 p' cv hcv
        exact ⟨c0, e1, ex _ _ e2 LamX.codeO_ne⟩
    refine h _ c' _ _ (inv_lam (t' := tk) (F := lamF X params scope c') I1 rfl) (ext_upd ex nf) (tabs_upd T1 nf) (I.hok.fresh (Nat.le_trans ge (Nat.le_of_lt lt))) upd_same ?_
    rw [upd_ne (Nat.ne_of_lt lt)]; exact upd_same
end
/-! ### .. and called -/
section
variable {CX : CXT} {P : Program} {w : World} {K : PySem.W.Frag} {mg : Str → Option Value} {base : Heap} {N ps fr : List Str} {F : NdefX.NF} {body : Expr} {f : Addr} {k : Nat} {A : Around} {outer : List Env} {s : Shared} {H : Hp} {us : List Value} {vs : List V} {ws : List (Option V)} {Q : VK} {E : XK}
theorem lam_run {t : TE} (S : NdefX.NScope N ps fr F.scope) (hb : ∀ (pm cv ctv : Value), bindArgs (PySem.W.kla_fn "<lambda>" F.qual F.params body F.scope F.cl pm cv ctv) ⟨us, []⟩ = pure (ps.zip us)) (hl : vs.length = ps.length) (hr : Room (k + 1) A) (e0 : Env0 P w K mg base A outer s H)
    (hf : H f = some (LamO f F body)) (hc : H F.c = some (LamX.CodeO F.c F.qual)) (C : NdefX.CellsAt F.cl fr ws s.heap H) (r : Vals vs us)
    (hbody : Room k (A.deeper (NdefX.envF F f s.heap.objs.size)) → PE (NdefX.ncx CX P w K mg base N F f A outer s H E) body t) (ht : t (NdefX.startF N vs ws) H Q) :
    codeAny (model P w) A (.call (.ref f) ⟨us, []⟩) (CR CX outer P w H s Q E) s := by
  obtain ⟨⟨od, sl, pm, ctv, ho⟩, _, _⟩ := e0.hok f _ hf
  have lm : s.heap.NoLimit := e0.mod.nolimit.keeps fun b o e => (e0.bs b o e).1
  refine PySem.W.kla_callFunE hr.depth ho rfl S.co S.gen rfl (NdefX.codeO_at e0.hok hc) ?_
  rw [hb pm _ ctv]
  refine wpAny_pure (wpAny_newFunctionEnv S.nocell (fun ⟨n, _⟩ hy => S.par n (List.of_mem_zip hy).1) (fun h1 hns hsb => ⟨lm.fresh _ hsb, ?_⟩) S.kind)
  show codeAny _ _ (.expr body (NdefX.envF F f s.heap.objs.size)) _ _
  have kp : ∀ b o, s.heap.get? b = some o → h1.get? b = some o := fun b o e => hsb.extBut b o (Nat.ne_of_lt (Heap.lt_size e)) (Heap.get?_push_of_some _ e)
  have I : L2.Inv (NdefX.ncx CX P w K mg base N F f A outer s H E) [] (NdefX.startF N vs ws) H { s with heap := h1, toks := s.toks + (ps.zip us).length } := NdefX.inv_startN S hr.hd e0 hl r C hns kp
  refine PySem.W.kla_codeExpr (wpAny_mono ((hbody (hr.deeper _)).run [] _ _ H Q I ht) (fun v s' ⟨v', H', J, rv, q⟩ => ?_) fun e s' z => z)
  exact ⟨v', H', J.os, J.bare, J.base, J.hok, rv, q⟩
end
end Zp

set_option Elab.async false
set_option linter.all false
set_option autoImplicit false
set_option maxRecDepth 100000
set_option maxHeartbeats 4000000
namespace Zp
open PySem PySem.Spec PyProof.Rows L2
/-! ### functions that are handed on -/
abbrev Gz.at (G : Gz) (b : Heap) (kc : Nat) : Gz := ⟨G.toGx, b, kc⟩
theorem CloOk.rebase {G : Gz} {b : Heap} {kc : Nat} {H : Hp} {as : As} {g : List D → Mo D} {v : V} (m : L2.Mod G.K G.mg G.base) (x : Ext G.base b) (hk : G.kc ≤ kc) (h : CloOk G H as g v) : CloOk (G.at b kc) H as g v := by
  obtain ⟨f, e, o, r⟩ := h
  exact ⟨f, e, o.imp (fun ⟨oc, od, fd, sl, z⟩ => ⟨oc, od, fd, sl, x.k _ _ z⟩) id, fun A outer s H2 as2 st2 us vs ds Q E gk room e0 rs va ra p => r A outer s H2 as2 st2 us vs ds Q E gk (room.mono hk) (x.env0 m e0) rs va ra p⟩
theorem RC.rebase {G : Gz} {b : Heap} {kc : Nat} {H : Hp} {as : As} {d : DC} {v : V} (m : L2.Mod G.K G.mg G.base) (x : Ext G.base b) (hk : G.kc ≤ kc) (h : RC G H as d v) : RC (G.at b kc) H as d v := by
  cases d with
  | v d => exact h
  | clo g => exact CloOk.rebase m x hk h
section
variable {G : Gx} {as : As} {st : List Cell} {H H1 : Hp}
theorem HidO.nt {b : Addr} {u : HO} (h : HidO b u) (ps : Array Value) : u ≠ .tbl ps := by rcases h with ⟨_, rfl⟩ | ⟨_, _, rfl⟩ | ⟨_, _, _, rfl⟩ <;> exact fun z => by cases z
theorem Mtb.nt {b : Addr} {u : HO} (h : Mtb b u) (ps : Array Value) : u ≠ .tbl ps := by rcases h with ⟨_, rfl⟩ | ⟨_, _, rfl⟩ | ⟨_, _, rfl⟩ | ⟨_, _, _, rfl⟩ <;> exact fun z => by cases z
theorem Gr.extn (rs : Rs G as st H) (e : LamX.ExtN H H1) : Gr H as H1 as :=
  ⟨⟨fun b o h f => e b o h fun ps z => by subst z; exact f, fun b o h n t => ⟨e b o h t, n⟩, List.prefix_refl _⟩, List.suffix_refl _, fun b hb => by
    obtain ⟨_, u, hu, hh⟩ := rs.hd b hb
    rw [hu]; exact e b u hu hh.nt⟩
theorem Rs.extn (rs : Rs G as st H) (e : LamX.ExtN H H1) (T1 : LamX.Tabs G.T H1) : Rs G as st H1 :=
  ⟨rs.nd, rs.len, fun n a c e1 e2 => (rs.cell n a c e1 e2).gr (Gr.extn rs e) (by
    obtain ⟨o, h1, h2⟩ := rs.there (.inl (List.mem_of_getElem? e1))
    rw [h1]; exact e a o h1 h2.nt), T1, fun b hb => ⟨(rs.hd b hb).1, by
    obtain ⟨_, u, hu, hh⟩ := rs.hd b hb
    exact ⟨u, e b u hu hh.nt, hh⟩⟩⟩
theorem code_bad {c : Addr} {q : Str} (rs : Rs G as st H) (e : H c = some (LamX.CodeO c q)) : ¬ as.bad c := rs.ne e fun m => by
  rcases m with ⟨l, z⟩ | ⟨es, ep, z⟩ | ⟨od, v, z⟩ | ⟨C, dx, fs, z⟩
  · cases z
  · exact code_raw z
  · cases z
  · cases z
end

/-! ### lambdas -/
/-- what the names hold that a function captures -/
def capOf (ρ : Ev) (js : List Nat) : Ev := js.map fun j => match ρ[j]? with
  | some o => o
  | none => none
def lamOf (n N : Nat) (b : Ev → Mo D) (cap : Ev) : List D → Mo D := fun ds st => if ds.length = n then (match b (ds.map (fun d => some (.v d)) ++ (cap ++ List.replicate (N - n - cap.length) none)) st with
  | .ok d st' => retD st.length d st'
  | .exc e st' => .exc e (st'.take st.length)
  | .bad => .bad) else .bad
theorem RE.append {G : Gz} {H : Hp} {as : As} {ρ ρ' : Ev} {σ σ' : L2.St} (h : RE G H as ρ σ) (h' : RE G H as ρ' σ') : RE G H as (ρ ++ ρ') (σ ++ σ') := by
  refine ⟨by rw [List.length_append, List.length_append, h.len, h'.len], fun i d e => ?_⟩
  by_cases l : i < ρ.length
  · rw [List.getElem?_append_left l] at e
    obtain ⟨v, e1, r⟩ := h.at_ i d e
    exact ⟨v, by rw [List.getElem?_append_left (by rw [← h.len]; exact l)]; exact e1, r⟩
  · rw [List.getElem?_append_right (by omega)] at e
    obtain ⟨v, e1, r⟩ := h'.at_ _ d e
    exact ⟨v, by rw [List.getElem?_append_right (by rw [← h.len]; omega), ← h.len]; exact e1, r⟩
theorem RE.vals {G : Gz} {H : Hp} {as : As} : ∀ {ds : List D} {vs : List V}, RVs G H as ds vs → RE G H as (ds.map fun d => some (.v d)) (vs.map some)
  | _, _, .nil => ⟨rfl, fun i d e => by simp at e⟩
  | _, _, .cons (d := d) (v := v) a b => by
    have h : RE G H as [some (.v d)] [some v] := ⟨rfl, fun i x e => by
      cases i with
      | zero => simp at e; subst e; exact ⟨v, rfl, a⟩
      | succ i => simp at e⟩
    exact RE.append h (RE.vals b)
theorem RE.nones {G : Gz} {H : Hp} {as : As} {n m : Nat} (e : n = m) : RE G H as (List.replicate n none) (List.replicate m none) := by
  subst e
  refine ⟨by simp, fun i d e => ?_⟩
  rw [List.getElem?_replicate] at e
  split at e <;> cases e
theorem RE.caps {G : Gz} {H : Hp} {as : As} {ρ : Ev} {σ : L2.St} (h : RE G H as ρ σ) (js : List Nat) : RE G H as (capOf ρ js) (js.map (NdefX.slotAt σ)) := by
  refine ⟨by unfold capOf; simp, fun i d e => ?_⟩
  unfold capOf at e
  rw [List.getElem?_map] at e
  cases ej : js[i]? with
  | none => rw [ej] at e; cases e
  | some j =>
    rw [ej] at e
    cases er : ρ[j]? with
    | none => simp only [Option.map_some, er] at e; cases e
    | some o =>
      simp only [Option.map_some, er] at e
      cases e
      obtain ⟨v, e1, r⟩ := h.at_ j d er
      exact ⟨v, by rw [List.getElem?_map, ej]; show some (NdefX.slotAt σ j) = _; rw [NdefX.slotAt_of e1], r⟩
section
variable {G : Gz} {X : Cx} {σ : L2.St} {b' : Heap} {H : Hp} {as : As} {ρ : Ev}
/-- the pinned cells, for a call of what captured them -/
theorem pin_cells {cl : List (Str × Addr)} {fr : List Str} {js : List Nat} {s : Shared} {H2 : Hp} {A : Around} {outer : List Env} (ok : X.Ok) (cp : NdefX.Caps X cl fr js) (px : PinX X σ b') (e0 : Env0 G.P G.w G.K G.mg b' A outer s H2) : NdefX.CellsAt cl fr (js.map (NdefX.slotAt σ)) s.heap H2 := by
  have up : ∀ {c v}, b'.IsCell c v → s.heap.IsCell c v ∧ H2 c = none := fun {c v} ⟨o, h1, h2⟩ => ⟨⟨o, (e0.bs _ _ h1).1, h2⟩, (e0.bs _ _ h1).2⟩
  refine ⟨?_, fun y c e => ?_, fun x y c e1 e2 => ok.inj x y c (cp.sub x c e1) (cp.sub y c e2), fun i y e => ?_⟩
  · have q := congrArg List.length cp.at_
    rw [List.length_map, List.length_map] at q
    rw [List.length_map]; exact q
  · obtain ⟨v, z⟩ := px.cell y c (cp.sub y c e)
    exact ⟨(up z).2, v, (up z).1⟩
  · have k := cp.kin y (List.mem_of_getElem? e)
    obtain ⟨a, ha⟩ : ∃ a, X.env.cells.lookup y = some a := k.elim (fun z => ok.has y (.inl z)) fun z => ok.has y (.inr z)
    refine ⟨a, cp.sup y (List.mem_of_getElem? e) a ha, fun v ev => ?_⟩
    have e2 : (js.map fun j => X.N[j]?)[i]? = some (some y) := by rw [cp.at_, List.getElem?_map, e]; rfl
    rw [List.getElem?_map] at e2 ev
    cases ej : js[i]? with
    | none => rw [ej] at e2; cases e2
    | some j =>
      rw [ej] at e2 ev
      have hj : X.N[j]? = some y := Option.some.inj e2
      have hv : NdefX.slotAt σ j = some v := Option.some.inj ev
      obtain ⟨c, u, h1, h2, h3⟩ := px.val j y v hj (NdefX.slotAt_some hv) k
      rw [ha] at h1; cases h1
      exact ⟨u, h2, (up h3).1⟩
theorem lam_clo {f c' : Addr} {params : Arguments} {body : Expr} {scope : Scope} {N ps fr : List Str} {js : List Nat} {k : Nat} {b : Ev → Mo D} (hB : X.base = G.base) (m : L2.Mod G.K G.mg G.base) (ok : X.Ok) (S : NdefX.NScope N ps fr scope) (cp : NdefX.Caps X (cloFrom X.env.cells scope.names []) fr js)
    (hb : ∀ (q : Str) (cl : List (Str × Addr)) (pm cv ctv : Value) (us : List Value), us.length = ps.length → bindArgs (PySem.W.kla_fn "<lambda>" q params body scope cl pm cv ctv) ⟨us, []⟩ = pure (ps.zip us)) (hkc : G.kc ≤ k)
    (px : PinX X σ b') (re : RE G H as ρ σ) (hf : H f = some (LamO f (lamF X params scope c') body)) (nf : ¬ as.bad f) (hc : H c' = some (LamX.CodeO c' (X.env.qual ++ "<lambda>"))) (nc : ¬ as.bad c')
    (hbody : ∀ (A : Around) (outer : List Env) (s : Shared) (H : Hp) (E : XK), Cz G (NdefX.ncx (L2.CX G.P G.w) G.P G.w G.K G.mg b' N (lamF X params scope c') f A outer s H E) (fun c d _ H' => E c d H') k →
      PE (NdefX.ncx (L2.CX G.P G.w) G.P G.w G.K G.mg b' N (lamF X params scope c') f A outer s H E) body (tE (G.at b' G.kc) (fun c d _ H' => E c d H') b)) :
    CloOk (G.at b' (k + 1)) H as (lamOf ps.length N.length b (capOf ρ js)) (.ref f) := by
  have xt : Ext G.base b' := hB ▸ px.ext
  refine ⟨f, rfl, .inr ⟨_, hf, nf, fun h ⟨od, sl, pm, ctv, z⟩ => ⟨_, od, _, sl, z⟩⟩, fun A outer s H2 as2 st2 us vs ds Q E gk room e0 rs va ra p => ?_⟩
  have hf2 := (gk.keep _ _ hf nf (fun _ z => by cases z)).1
  have hc2 := (gk.keep _ _ hc nc LamX.codeO_ne).1
  unfold lamOf at p
  by_cases hl : ds.length = ps.length
  · rw [if_pos hl] at p
    have hlv : vs.length = ps.length := by rw [← ra.length]; exact hl
    have C := pin_cells (G := G) ok cp px e0
    have hcl : (capOf ρ js).length = fr.length := by rw [← C.len]; unfold capOf; rw [List.length_map, List.length_map]
    have hNl : ps.length + fr.length ≤ N.length := by
      have q := congrArg List.length S.pre
      rw [List.length_take, List.length_append] at q
      omega
    refine lam_run (F := lamF X params scope c') S (fun pm cv ctv => hb _ _ pm cv ctv us (by rw [← va.length]; exact hlv)) hlv room e0 hf2 hc2 C va (fun room' => hbody A outer s H2 E ⟨⟨rfl, rfl, rfl, rfl⟩, takes_of rfl rfl rfl rfl, rfl, room', passes_of rfl⟩) ?_
    have re2 : RE (G.at b' G.kc) H2 as2 (ds.map (fun d => some (.v d)) ++ (capOf ρ js ++ List.replicate (N.length - ps.length - (capOf ρ js).length) none)) (NdefX.startF N vs (js.map (NdefX.slotAt σ))) := by
      have rg := re.gk gk
      have rb : RE (G.at b' G.kc) H2 as2 ρ σ := ⟨rg.len, fun i d e => let ⟨v, e1, r⟩ := rg.at_ i d e; ⟨v, e1, r.rebase m xt (Nat.le_refl _)⟩⟩
      exact RE.append (RE.vals ra) (RE.append (rb.caps js) (RE.nones (by rw [hcl, ← C.len, hlv])))
    refine ⟨_, as2, st2, re2, rs, ?_⟩
    generalize b _ st2 = o at p
    cases o with
    | ok d st' => exact fun as' v H' g r' q => retD_ok G.toGx as2 as' st2 st' H2 H' d v E Q rs r' g q p
    | exc x st' =>
      intro as' cls dd H' g r' q
      obtain ⟨rs1, g1, e1⟩ := rs.cut r' g
      exact p as2 cls dd H' g1 rs1 (q.less (cut_less rs g))
    | bad => exact p.elim
  · rw [if_neg hl] at p; exact p.elim
end
end Zp

set_option Elab.async false
set_option linter.all false
set_option autoImplicit false
set_option maxRecDepth 100000
set_option maxHeartbeats 4000000
namespace Zp
open PySem PySem.Spec PyProof.Rows L2
/-! ### arguments that may be functions -/
def RQ (X : Cx) (G : Gz) (kc : Nat) (σ : L2.St) (H : Hp) (as : As) : DC → V → Prop
  | .v d, v => RV G H as d v
  | .clo g, v => ∀ b', PinX X σ b' → CloOk (G.at b' kc) H as g v
theorem RQ.gr {X : Cx} {G : Gz} {kc : Nat} {σ : L2.St} {H H' : Hp} {as as' : As} (x : Gr H as H' as') {d : DC} {v : V} (h : RQ X G kc σ H as d v) : RQ X G kc σ H' as' d v := by
  cases d with
  | v d => exact RV.gr x h
  | clo g => exact fun b' px => (h b' px).gr x
theorem RQ.to {X : Cx} {G : Gz} {kc : Nat} {σ : L2.St} {H : Hp} {as : As} {b' : Heap} (px : PinX X σ b') {d : DC} {v : V} (h : RQ X G kc σ H as d v) : RC (G.at b' kc) H as d v := by
  cases d with
  | v d => exact h
  | clo g => exact h b' px
def RQs (X : Cx) (G : Gz) (kc : Nat) (σ : L2.St) (H : Hp) (as : As) : List DC → List V → Prop := Paired (RQ X G kc σ H as)
theorem RQs.to {X : Cx} {G : Gz} {kc : Nat} {σ : L2.St} {H : Hp} {as : As} {b' : Heap} (px : PinX X σ b') : ∀ {d : List DC} {v : List V}, RQs X G kc σ H as d v → RCs (G.at b' kc) H as d v
  | _, _, .nil => .nil
  | _, _, .cons a b => .cons (RQ.to px a) (RQs.to px b)
def tQ (X : Cx) (G : Gz) (kc : Nat) (W : WX) (f : Ev → Mo DC) : TE := fun σ H Q => ∃ ρ as st, RE G H as ρ σ ∧ Rs G as st H ∧ Post G (RQ X G kc σ) H as (fun c d H' => W c d σ H') Q (f ρ st)
def tAQ (X : Cx) (G : Gz) (kc : Nat) (W : WX) (f : Ev → Mo (List DC)) : TA := fun σ H Q => ∃ ρ as st, RE G H as ρ σ ∧ Rs G as st H ∧ Post G (RQs X G kc σ) H as (fun c d H' => W c d σ H') Q (f ρ st)
def cLam (n N : Nat) (b : Ev → Mo D) (js : List Nat) (ρ : Ev) : Mo DC := ret (.clo (lamOf n N b (capOf ρ js)))
/-- a name that holds a function -/
def cFun (i : Nat) (ρ : Ev) : Mo DC := match ρ[i]? with
  | some (some d) => ret d
  | _ => stuck
/-- a module's function -/
def cDef (g : List DC → Mo D) (n : Nat) (_ : Ev) : Mo DC := ret (.clo fun ds st => if ds.length = n then g (ds.map .v) st else .bad)
section
variable {G : Gz} {X : Cx} {W : WX} {kc k : Nat} {f : Ev → Mo D} {e : Expr} {es : List Expr} {pos : Pos}
theorem sq_val (ha : PE X e (tE G W f)) : PE X e (tQ X G kc W (cVl f)) := PE.imp ha fun σ H Q ⟨ρ, as, st, re, rs, hp⟩ => ⟨ρ, as, st, re, rs, (Post.bind hp).mono fun x H1 ⟨a, as1, st1, _, g1, rs1, ra, hp1⟩ => hp1 as1 x H1 (Gr.refl _ _) rs1 ra⟩
theorem sq_lam {c P : Addr} {params : Arguments} {body : Expr} {scope : Scope} {N ps fr : List Str} {js : List Nat} {b : Ev → Mo D} (F : Fits G X) (hB : X.base = G.base) (TB : LamX.TabB X.base X.mg c P) (hcode : X.env.code = .ref c)
    (hm : (P, X.env.qual ++ "<lambda>") ∈ G.T) (hu : ∀ p ∈ G.T, p.1 = P → p.2 = X.env.qual ++ "<lambda>") (hdef : defaultsOf params X.env = ([], [])) (S : NdefX.NScope N ps fr scope) (hfree : ∀ y ∈ scope.names, y.2 = .free → X.env.scope.names.lookup y.1 = some .cell ∨ X.env.scope.names.lookup y.1 = some .free)
    (hfr : ∀ y ∈ fr, (y, NameKind.free) ∈ scope.names) (hjs : js.map (fun j => X.N[j]?) = fr.map some)
    (hb : ∀ (q : Str) (cl : List (Str × Addr)) (pm cv ctv : Value) (us : List Value), us.length = ps.length → bindArgs (PySem.W.kla_fn "<lambda>" q params body scope cl pm cv ctv) ⟨us, []⟩ = pure (ps.zip us)) (hkc : G.kc ≤ k)
    (hbody : ∀ (b' : Heap), Ext X.base b' → ∀ (f c' : Addr) (A : Around) (outer : List Env) (s : Shared) (H : Hp) (E : XK), Cz (G.at b' G.kc).toGx (NdefX.ncx (L2.CX G.P G.w) G.P G.w G.K G.mg b' N (lamF X params scope c') f A outer s H E) (fun c d _ H' => E c d H') k →
      PE (NdefX.ncx (L2.CX G.P G.w) G.P G.w G.K G.mg b' N (lamF X params scope c') f A outer s H E) body (tE (G.at b' G.kc) (fun c d _ H' => E c d H') b)) :
    PE X (.Lambda params body scope pos) (tQ X G (k + 1) W (cLam ps.length N.length b js)) := by
  refine ⟨fun pins s σ H Q I ⟨ρ, as, st, re, rs, hp⟩ => ?_⟩
  refine lam_mk I TB hcode hm hu rs.tabs hdef (fun y hy e => (hfree y hy e).elim (fun z => I.ok.has _ (.inl z)) fun z => I.ok.has _ (.inr z)) fun f c' H1 s' I1 ex T1 nf hf hc => ?_
  have g1 := Gr.extn rs ex
  have rs1 := Rs.extn rs ex T1
  have mo : L2.Mod G.K G.mg G.base := by rw [← F.K, ← F.mg, ← hB]; exact I1.ok.mod
  exact ⟨.ref f, H1, I1, rfl, hp as (.ref f) H1 g1 rs1 fun b' px => lam_clo hB mo I1.ok S (NdefX.Caps.made I1.ok hfree hfr hjs) hb hkc px (re.gr g1) hf (rs.fresh nf) hc (code_bad rs1 hc) (hbody b' px.ext f c')⟩
theorem sq_fun {i : Nat} {x : Str} (F : Fits G X) (hB : X.base = G.base) (hkc : G.kc ≤ kc) (hN : X.N[i]? = some x) (hv : Vis X.env.scope x) (hd : (x == ("__debug__" : Str)) = false := by decide) (hcd : (x == ("__classdict__" : Str)) = false := by decide) :
    PE X (.Name x pos) (tQ X G kc W (cFun i)) := by
  refine ⟨fun pins s σ H Q I ⟨ρ, as, st, re, rs, hp⟩ => ?_⟩
  have mo : L2.Mod G.K G.mg G.base := by rw [← F.K, ← F.mg, ← hB]; exact I.ok.mod
  refine (pe_var (pos := pos) (i := i) hN hv hd hcd).run pins s σ H Q I ?_
  unfold cFun at hp
  cases e : ρ[i]? with
  | none => rw [e] at hp; exact hp.elim
  | some o =>
    cases o with
    | none => rw [e] at hp; exact hp.elim
    | some d =>
      rw [e] at hp
      obtain ⟨v, ev, r⟩ := re.at_ i _ e
      refine ⟨v, ev, hp as v H (Gr.refl _ _) rs ?_⟩
      cases d with
      | v d => exact r
      | clo g => exact fun b' px => r.rebase mo (hB ▸ px.ext) hkc
theorem sQ_nil : PA X [] (tAQ X G kc W aNil) := PA.imp pa_nil fun σ H Q ⟨ρ, as, st, re, rs, hp⟩ => hp as [] H (Gr.refl _ _) rs .nil
theorem sQ_cons {fx : Ev → Mo DC} {rx : Ev → Mo (List DC)} (ha : PE X e (tQ X G kc W fx)) (hr : PA X es (tAQ X G kc W rx)) (hs : starEach (e :: es) X.env = (false, eval e X.env) :: starEach es X.env := by rfl) : PA X (e :: es) (tAQ X G kc W (aCons fx rx)) := PA.imp (pa_cons ha hr hs) fun σ H Q ⟨ρ, as, st, re, rs, hp⟩ =>
  ⟨ρ, as, st, re, rs, (Post.bind hp).mono fun x H1 ⟨a, as1, st1, _, g1, rs1, ra, hp1⟩ => ⟨ρ, as1, st1, re.gr g1, rs1, (Post.bind hp1).mono fun xs H2 ⟨ds, as2, st2, _, g2, rs2, rb, hp2⟩ => hp2 as2 _ H2 (Gr.refl _ _) rs2 (.cons (RQ.gr g2 ra) rb)⟩⟩
/-- a def's own function, handed on -/
theorem def_clo {fa : Addr} {fd : FuncData} {ps : List Str} {g : List DC → Mo D} {b' : Heap} {H : Hp} {as : As} {oc : Value} {od : Option Addr} {sl : Array (Option Value)} (m : L2.Mod G.K G.mg b') (lk : G.K.lookup fa = some ⟨oc, od, .func fd, sl⟩)
    (Fn : FnOk G.P G.w G.K G.mg b' (L2.CX G.P G.w) kc fa fd ps (spOf (G.at b' k) ps.length g)) (hb : Binds G.K fd ps []) : CloOk (G.at b' kc) H as (fun ds st => if ds.length = ps.length then g (ds.map .v) st else .bad) (.ref fa) := by
  refine ⟨fa, rfl, .inl ⟨oc, od, fd, sl, m.kin _ _ lk⟩, fun A outer s H2 as2 st2 us vs ds Q E gk room e0 rs va ra p => ?_⟩
  by_cases hl : ds.length = ps.length
  · simp only [if_pos hl] at p
    have hlu : (us ++ []).length = ps.length := by rw [List.append_nil, ← va.length, ← ra.length]; exact hl
    have kin : G.K.In s.heap := m.kin.keeps fun b o e => (e0.bs b o e).1
    have bt := hb s us kin hlu
    rw [List.append_nil] at bt
    exact Fn.run A outer s H2 ⟨us, []⟩ us vs Q E room e0 bt va ⟨ds.map .v, as2, st2, by rw [List.length_map]; exact hl, RCs.of ra, rs, p⟩
  · simp only [if_neg hl] at p; exact p.elim
theorem sq_def {fa : Addr} {fd : FuncData} {ps : List Str} {x : Str} {g : List DC → Mo D} {j n : Nat} {oc : Value} {od : Option Addr} {sl : Array (Option Value)} (F : Fits G X) (hB : X.base = G.base) (hg : Gl X x) (hm : X.mg x = some (.ref fa)) (lk : G.K.lookup fa = some ⟨oc, od, .func fd, sl⟩)
    (Fn : ∀ b', Ext G.base b' → FnOk G.P G.w G.K G.mg b' (L2.CX G.P G.w) j fa fd ps (spOf (G.at b' k) n g)) (hn : n = ps.length) (hj : j ≤ kc) (hb : Binds G.K fd ps []) (hdb : (x == ("__debug__" : Str)) = false := by decide) :
    PE X (.Name x pos) (tQ X G kc W (cDef g n)) := by
  subst hn
  refine ⟨fun pins s σ H Q I ⟨ρ, as, st, re, rs, hp⟩ => ?_⟩
  have mo : L2.Mod G.K G.mg G.base := by rw [← F.K, ← F.mg, ← hB]; exact I.ok.mod
  exact ld_glob I hg hm ⟨.ref fa, H, I, rfl, hp as _ H (Gr.refl _ _) rs fun b' px => def_clo ((hB ▸ px.ext : Ext G.base b').mod mo) lk ((Fn b' (hB ▸ px.ext)).mono hj) hb⟩ hdb
end
/-! ### calls of defs that take functions -/
section
variable {G : Gz} {X : Cx} {W : WX} {k j n kc : Nat} {pos p : Pos} {fa : Addr} {fd : FuncData} {ps : List Str} {x : Str} {e : Expr} {es : List Expr} {g : List DC → Mo D} {f : Ev → Mo (List DC)} {fs : Ev → Mo (List D)}
theorem se_callQ (C : Cz G X W k) (hB : X.base = G.base) (hfn : ∀ x, X.fn x = true) (F : ∀ b', Ext G.base b' → FnOk X.prog X.w X.K X.mg b' (L2.CX X.prog X.w) j fa fd ps (spOf (G.at b' kc) n g)) (hj : j ≤ k) (hg : Gl X x) (hm : X.mg x = some (.ref fa)) (hk : PySem.W.keepIn X.K (.ref fa) = true) (hb : Binds X.K fd ps [])
    (hl : ∀ ρ st ds st', f ρ st = .ok ds st' → ds.length = n) (ha : PA X (e :: es) (tAQ X G kc W f)) (hdb : (x == ("__debug__" : Str)) = false := by decide) (he : starEach (e :: es) X.env = (false, eval e X.env) :: starEach es X.env := by rfl) (hpl : (backTo pos (starEach es X.env)).any (·.1) = false := by rfl) :
    PE X (.Call (.Name x p) (e :: es) [] pos) (tE G W (cCall g f)) := by
  refine ⟨fun pins s σ H Q I ⟨ρ, as, st, re, rs, hp⟩ => ?_⟩
  refine wpAny_Call_Name_kw (ld_glob I hg hm ?_ hdb)
  refine PySem.W.callWith_K (h₀ := X.base) I.ok.mod.kin hk (thn (ha.run pos pins s σ H (fun vs H1 => ∀ b', PinX X σ b' → spOf (G.at b' kc) n g vs H1 Q (WE W σ)) I ⟨ρ, as, st, re, rs, (Post.bind hp).mono fun xs H1 ⟨ds, as1, st1, e1, g1, rs1, ra, hp1⟩ b' px => ⟨ds, as1, st1, hl _ _ _ _ e1, ra.to px, rs1, hp1⟩⟩) fun us s1 ⟨vs, H1, I1, r, q⟩ => ⟨I1.kIn, ?_⟩) he hpl
  obtain ⟨px, e0⟩ := pinH_ok hfn I1
  have xt : Ext G.base (pinH X s1) := hB ▸ px.ext
  have sp := q _ px
  have hlv : vs.length = ps.length := (F _ xt).len _ _ _ _ sp
  have bt := hb s1 us I1.kIn (by rw [List.append_nil, ← r.length]; exact hlv)
  rw [List.append_nil] at bt
  show wpAny _ _ (call (.ref fa) us) _ _ _
  refine wpAny_call (codeAny_mono ((F _ xt).run X.A X.stack s1 H1 ⟨us, []⟩ us vs Q (WE W σ) (C.room.mono hj) e0 bt r sp) fun r s' hq => ?_)
  cases r with
  | error e => exact passAt C.tk σ pins H1 s1 e s' I1 hq
  | ok fl =>
    cases fl with
    | ret u => exact I1.after hq
    | next => exact False.elim hq
    | brk => exact False.elim hq
    | cont => exact False.elim hq
/-- a call of what a name holds -/
def cCallL (i : Nat) (f : Ev → Mo (List D)) (ρ : Ev) : Mo D := fun st => match ρ[i]? with
  | some (some (.clo g)) => (f ρ st).bind g
  | _ => .bad
theorem clo_at {pins : List (Addr × Obj)} {σ : L2.St} {H : Hp} {as : As} {s : Shared} {f : Addr} (hB : X.base = G.base) (I : L2.Inv X pins σ H s) (h : CloObj G H as f) : PySem.W.FnAt f s.heap := by
  rcases h with ⟨oc, od, fd, sl, z⟩ | ⟨φ, h1, _, h3⟩
  · exact ⟨oc, od, fd, sl, I.bk _ _ (by rw [hB]; exact z)⟩
  · obtain ⟨q, _, _⟩ := I.hok f _ h1
    exact h3 _ q
theorem clo_run {pins : List (Addr × Obj)} {σ : L2.St} {H : Hp} {as : As} {st : List Cell} {s : Shared} {f : Addr} {h : List D → Mo D} {us : List Value} {vs : List V} {ds : List D} {Q : VK} (C : Cz G X W k) (hB : X.base = G.base) (hkc : G.kc ≤ k) (I : L2.Inv X pins σ H s) (c : CloOk G H as h (.ref f)) (rs : Rs G as st H) (va : Vals vs us) (ra : RVs G H as ds vs)
    (hp : Post G (RV G) H as (fun c d H' => W c d σ H') Q (h ds st)) : wpAny (model X.prog X.w) X.A (call (.ref f) us) (EP X pins σ Q) X.xe s := by
  obtain ⟨f', e, o, r⟩ := c
  cases e
  have F := C.fit
  have e0 : Env0 G.P G.w G.K G.mg G.base X.A X.stack s H := by rw [← F.P, ← F.w, ← F.K, ← F.mg, ← hB]; exact I.env0
  have z := r X.A X.stack s H as st us vs ds Q (WE W σ) (Gk.refl _ _) (C.room.mono hkc) e0 rs va ra hp
  rw [← F.P, ← F.w] at z
  refine wpAny_call (codeAny_mono z fun r s' hq => ?_)
  cases r with
  | error e => exact passAt C.tk σ pins H s e s' I hq
  | ok fl =>
    cases fl with
    | ret u => exact I.after hq
    | next => exact False.elim hq
    | brk => exact False.elim hq
    | cont => exact False.elim hq
theorem slot_clo {G : Gz} {H : Hp} {as : As} {ρ : Ev} {σ : L2.St} {i : Nat} {α : Type} {o : List Cell → Out α} {k : (List D → Mo D) → List Cell → Out α} {st : List Cell} {P : Out α → Prop} (re : RE G H as ρ σ) (hbad : ¬ P .bad) (hp : P (match ρ[i]? with
  | some (some (.clo g)) => k g st
  | _ => .bad)) : ∃ f g, σ[i]? = some (some (.ref f)) ∧ CloOk G H as g (.ref f) ∧ P (k g st) := by
  cases e : ρ[i]? with
  | none => rw [e] at hp; exact absurd hp hbad
  | some o =>
    cases o with
    | none => rw [e] at hp; exact absurd hp hbad
    | some d =>
      cases d with
      | v d => rw [e] at hp; exact absurd hp hbad
      | clo g =>
        rw [e] at hp
        obtain ⟨v, ev, r⟩ := re.at_ i _ e
        have r' := r
        obtain ⟨f, rfl, _⟩ := r'
        exact ⟨f, g, ev, r, hp⟩
theorem se_callL {i : Nat} (C : Cz G X W k) (hB : X.base = G.base) (hkc : G.kc ≤ k) (hN : X.N[i]? = some x) (hv : Vis X.env.scope x) (ha : PA X (e :: es) (tA G W fs)) (hd : (x == ("__debug__" : Str)) = false := by decide) (hcd : (x == ("__classdict__" : Str)) = false := by decide)
    (he : starEach (e :: es) X.env = (false, eval e X.env) :: starEach es X.env := by rfl) (hpl : (backTo pos (starEach es X.env)).any (·.1) = false := by rfl) :
    PE X (.Call (.Name x p) (e :: es) [] pos) (tE G W (cCallL i fs)) := by
  refine ⟨fun pins s σ H Q I ⟨ρ, as, st, re, rs, hp⟩ => ?_⟩
  obtain ⟨f, g, hs, hc, hp⟩ := slot_clo (k := fun g st => (fs ρ st).bind g) (P := Post G (RV G) H as (fun c d H' => W c d σ H') Q) (o := fun _ => .bad) re (fun z => z) hp
  refine wpAny_Call_Name_kw (thn ((pe_var (pos := p) hN hv hd hcd).run pins s σ H (fun v H1 => v = .ref f ∧ H1 = H) I ⟨.ref f, hs, rfl, rfl⟩) fun u s1 ⟨v, H1, I1, r1, q1⟩ => ?_)
  obtain ⟨ev, eH⟩ := q1
  subst ev
  rw [eH] at I1
  obtain rfl : u = Value.ref f := r1
  have o : CloObj G H as f := by obtain ⟨f', e, o, _⟩ := hc; cases e; exact o
  refine PySem.W.callWith_F (first := []) (clo_at hB I1 o) (thn (ha.run pos pins s1 σ H _ I1 ⟨ρ, as, st, re, rs, Post.bind hp⟩) fun us s2 ⟨vs, H2, I2, r, ds, as2, st2, _, g2, rs2, ra, hp2⟩ => ⟨clo_at hB I2 (o.gk g2.toGk), ?_⟩) he hpl
  exact clo_run C hB hkc I2 (hc.gr g2) rs2 r ra hp2
theorem se_callL0 {i : Nat} (C : Cz G X W k) (hB : X.base = G.base) (hkc : G.kc ≤ k) (hN : X.N[i]? = some x) (hv : Vis X.env.scope x) (hd : (x == ("__debug__" : Str)) = false := by decide) (hcd : (x == ("__classdict__" : Str)) = false := by decide) :
    PE X (.Call (.Name x p) [] [] pos) (tE G W (cCallL i cNil)) := by
  refine ⟨fun pins s σ H Q I ⟨ρ, as, st, re, rs, hp⟩ => ?_⟩
  obtain ⟨f, g, hs, hc, hp⟩ := slot_clo (k := fun g st => (cNil ρ st).bind g) (P := Post G (RV G) H as (fun c d H' => W c d σ H') Q) (o := fun _ => .bad) re (fun z => z) hp
  refine wpAny_Call_Name_kw (thn ((pe_var (pos := p) hN hv hd hcd).run pins s σ H (fun v H1 => v = .ref f ∧ H1 = H) I ⟨.ref f, hs, rfl, rfl⟩) fun u s1 ⟨v, H1, I1, r1, q1⟩ => ?_)
  obtain ⟨ev, eH⟩ := q1
  subst ev
  rw [eH] at I1
  obtain rfl : u = Value.ref f := r1
  have o : CloObj G H as f := by obtain ⟨f', e, o, _⟩ := hc; cases e; exact o
  refine PySem.W.callWith_F0 (first := []) (clo_at hB I1 o) ?_
  exact clo_run C hB hkc I1 hc rs .nil .nil hp
end
end Zp

set_option Elab.async false
set_option linter.all false
set_option autoImplicit false
set_option maxRecDepth 100000
set_option maxHeartbeats 4000000
namespace Zp
open PySem PySem.Spec PyProof.Rows L2
open PySem.W (dataLe dataLt AllAlike Sortable alike EachIs)
/-! ### sorted by a key -/
theorem each_reads {X : Cx} {pins : List (Addr × Obj)} {σ : L2.St} {H : Hp} {s : Shared} (I : L2.Inv X pins σ H s) : ∀ {xs : List V} {kz : List PyData} {us : List Value}, DpAll X.K H xs kz → Vals xs us → EachIs (fun v d => ∃ as, Reads s.heap v d as) us kz
  | _, _, _, .nil, .nil => EachIs.nil
  | _, _, _, .cons d1 d2, .cons r1 r2 => EachIs.cons (Dp.reads I _ _ _ d1 r1) (each_reads I d2 r2)
/-- the keys of the items, from the left -/
def keyL (g : List D → Mo D) : List PyData → Mo (List PyData)
  | [] => ret []
  | x :: xs => fun st => (nx (g [.dat x] st)).bind fun k st1 => match k with
    | .dat d => (keyL g xs st1).bind fun ks st2 => .ok (d :: ks) st2
    | _ => .bad
theorem keyL_ne {g : List D → Mo D} : ∀ {l : List PyData} {st : List Cell} {e : Exn} {st' : List Cell}, keyL g l st ≠ .exc e st'
  | [], _, _, _ => fun z => by cases z
  | x :: xs, st, e, st' => fun z => by
    have z : (nx (g [.dat x] st)).bind (fun k st1 => match k with
      | .dat d => (keyL g xs st1).bind fun ks st2 => .ok (d :: ks) st2
      | _ => .bad) = .exc e st' := z
    cases e1 : g [.dat x] st with
    | ok k st1 =>
      rw [e1] at z
      cases k with
      | dat d =>
        have z : (keyL g xs st1).bind (fun ks st2 => Out.ok (d :: ks) st2) = .exc e st' := z
        cases e2 : keyL g xs st1 with
        | ok ks st2 => rw [e2] at z; cases z
        | exc y s => exact keyL_ne e2
        | bad => rw [e2] at z; cases z
      | _ => cases z
    | exc y s => rw [e1] at z; cases z
    | bad => rw [e1] at z; cases z
/-- a function that is called from within sorted (two frames of the machine deeper) -/
def KeyOk (X : Cx) (G : Gx) (σ : L2.St) (fv : Value) (g : List D → Mo D) (H : Hp) (as : As) : Prop := ∀ (H2 : Hp) (as2 : As) (st2 : List Cell) (x : V) (d : D) (u : Value) (Q : VK) (pins' : List (Addr × Obj)) (s : Shared), Gr H as H2 as2 → Rs G as2 st2 H2 → RV G H2 as2 d x → RelV x u → L2.Inv X pins' σ H2 s →
  Post G (RV G) H2 as2 (fun _ _ _ => False) Q (g [d] st2) → wpAny (model X.prog X.w) X.A.in1.in1 (call fv [u]) (EP X pins' σ Q) (fun _ _ => False) s
theorem keyOk_clo {G : Gz} {X : Cx} {W : WX} {k kc : Nat} {σ : L2.St} {H : Hp} {as : As} {f : Addr} {g : List D → Mo D} (C : Cz G X W k) (hfn : ∀ x, X.fn x = true) (hk : kc + 1 ≤ k) (h : ∀ b', PinX X σ b' → CloOk (G.at b' kc) H as g (.ref f)) : KeyOk X G σ (.ref f) g H as := by
  intro H2 as2 st2 x d u Q pins' s gr rs r ru I hp
  obtain ⟨px, e0⟩ := pinH_ok hfn I
  obtain ⟨f', e, o, run⟩ := h _ px
  cases e
  have F := C.fit
  have e1 : Env0 G.P G.w G.K G.mg (pinH X s) X.A.in1.in1 X.stack s H2 := by rw [← F.P, ← F.w, ← F.K, ← F.mg]; exact e0.in1.in1
  have rm : Room kc X.A.in1.in1 := by
    have q := C.room.mono hk
    exact ⟨q.hd, by have := q.dp; show X.A.depth + 3 * kc + 5 < _; omega, by have := q.un; show X.A.units + 1 + 1 + 16 * kc + 200 < _; omega⟩
  have z := run X.A.in1.in1 X.stack s H2 as2 st2 [u] [x] [d] Q (fun _ _ _ => False) gr.toGk rm e1 rs (.cons ru .nil) (.cons r .nil) hp
  rw [← F.P, ← F.w] at z
  refine wpAny_call (codeAny_mono z fun r s' hq => ?_)
  cases r with
  | error e => obtain ⟨_, _, _, _, _, _, _, _, _, _, _, _, z⟩ := hq; exact z
  | ok fl =>
    cases fl with
    | ret u => exact I.after hq
    | next => exact False.elim hq
    | brk => exact False.elim hq
    | cont => exact False.elim hq
section
variable {X : Cx} {G : Gx} {pins : List (Addr × Obj)} {σ : L2.St} {H : Hp} {as : As} {st : List Cell} {s : Shared}
theorem DqAll.snoc {K : PySem.W.Frag} {v : V} {vs : List V} {d : PyData} {ds : List PyData} (h : DqAll K H as vs ds) (q : Dq K H as v d) : DqAll K H as (vs ++ [v]) (ds ++ [d]) := h.append (.cons q .nil)
theorem sortK_run {v fv : Value} {vs : List Value} {xs : List V} {l : List PyData} {g : List D → Mo D} {Q : VK} {E : XK} (ht : ∀ a : Addr, Builtin.«list.sort» ⟨[.ref a], [(Str.ofString "key", fv)]⟩ = PyProof.Rows.ksk_tree a fv false) (eK : X.K = G.K) (hu : X.A.units + 200 < cLine) (I : L2.Inv X pins σ H s) (rs : Rs G as st H) (C : Coll (model X.prog X.w) X.A.in1 s v vs) (hL : vs.length ≤ sizeLine) (r : Vals xs vs) (q : DqAll G.K H as xs l) (ko : KeyOk X G σ fv g H as)
    (hp : Post G (RV G) H as E Q ((keyL g l st).bind fun ks st1 => if okSort ks = true then .ok (.dat (.list (sortK l ks))) st1 else .bad)) :
    wpAny (model X.prog X.w) X.A (call (.builtin "sorted") [v] [(Str.ofString "key", fv)]) (EP X pins σ Q) X.xe s := by
  have hlen : xs.length = l.length := q.length
  refine sorted_keyI ht I C hL r (fun i H' kvs => ∃ as' st' ds, Gr H as H' as' ∧ Rs G as' st' H' ∧ kvs.length = i ∧ DqAll G.K H' as' kvs ds ∧
    Post G (RV G) H' as' E Q ((keyL g (l.drop i) st').bind fun ks st1 => if okSort (ds ++ ks) = true then .ok (.dat (.list (sortK l (ds ++ ks)))) st1 else .bad)) ⟨as, st, [], Gr.refl _ _, rs, rfl, .nil, hp⟩ (fun i x u H' kvs hx ru ⟨as', st', ds, gr, rs', lk, qk, hp'⟩ pins' s' I' => ?_) fun H' kvs us s' ⟨as', st', ds, gr, rs', lk, qk, hp'⟩ rk I' => ?_
  · have hi : i < l.length := by rw [← hlen]; exact (List.getElem?_eq_some_iff.mp hx).1
    obtain ⟨d, hd, dq⟩ := q.get' hx
    have ed : l.drop i = d :: l.drop (i + 1) := by
      rw [List.drop_eq_getElem_cons hi]
      have := (List.getElem?_eq_some_iff.mp hd).2
      rw [this]
    rw [ed] at hp'
    refine ko H' as' st' x (.dat d) u _ pins' s' gr rs' (.dat (dq.gr gr)) ru I' ?_
    have hp' : Post G (RV G) H' as' E Q (((nx (g [.dat d] st')).bind fun k st1 => match k with
      | .dat d => (keyL g (l.drop (i + 1)) st1).bind fun ks st2 => .ok (d :: ks) st2
      | _ => .bad).bind fun ks st1 => if okSort (ds ++ ks) = true then .ok (.dat (.list (sortK l (ds ++ ks)))) st1 else .bad) := hp'
    cases e : g [.dat d] st' with
    | exc y z => rw [e] at hp'; exact hp'.elim
    | bad => rw [e] at hp'; exact hp'.elim
    | ok k st1 =>
      rw [e] at hp'
      intro as2 v2 H2 g2 rs2 rk2
      cases k with
      | dat dk =>
        cases rk2 with
        | dat dq2 =>
        refine ⟨as2, st1, ds ++ [dk], gr.trans g2, rs2, by rw [List.length_append, lk]; rfl, (qk.gr g2).snoc dq2, ?_⟩
        have hp' : Post G (RV G) H' as' E Q (((keyL g (l.drop (i + 1)) st1).bind fun ks st2 => .ok (dk :: ks) st2).bind fun ks st1 => if okSort (ds ++ ks) = true then .ok (.dat (.list (sortK l (ds ++ ks)))) st1 else .bad) := hp'
        rw [Out.bind_assoc] at hp'
        have hp' := Post.gr g2 hp'
        cases e2 : keyL g (l.drop (i + 1)) st1 with
        | ok ks st2 =>
          rw [e2] at hp'
          show Post G (RV G) H2 as2 E Q (if okSort (ds ++ [dk] ++ ks) = true then .ok (.dat (.list (sortK l (ds ++ [dk] ++ ks)))) st2 else .bad)
          rw [List.append_assoc]
          exact hp'
        | exc y z => exact absurd e2 keyL_ne
        | bad => rw [e2] at hp'; exact hp'.elim
      | _ => exact hp'.elim
  · have hlv : vs.length = l.length := by rw [← hlen]; exact r.length.symm
    have e0 : l.drop vs.length = [] := by rw [hlv]; exact List.drop_length
    rw [e0] at hp'
    have hp' : Post G (RV G) H' as' E Q (if okSort (ds ++ []) = true then .ok (.dat (.list (sortK l (ds ++ [])))) st' else .bad) := hp'
    rw [List.append_nil] at hp'
    by_cases ok : okSort ds = true
    · rw [if_pos ok] at hp'
      obtain ⟨o1, o2, o3⟩ := okSort_ok ok
      refine ⟨ds, by rw [← qk.length, lk], each_reads I' (by rw [eK]; exact qk.dp) rk, o1, o2, fun d hd => ?_, fun p hn => fin_lst rs' hp' (DqAll.sorted (q.gr gr)) p hn⟩
      have := o3 d hd
      show X.A.units + 1 + 1 + d.depth < cLine
      omega
    · rw [if_neg ok] at hp'; exact hp'.elim
end
def cSortK (f : Ev → Mo D) (cf : Ev → Mo DC) (ρ : Ev) : Mo D := fun st => (f ρ st).bind fun d st1 => (cf ρ st1).bind fun c st2 => match c with
  | .clo g => match listedD d st2 with
    | some l => (keyL g l st2).bind fun ks st3 => if okSort ks = true then .ok (.dat (.list (sortK l ks))) st3 else .bad
    | none => .bad
  | .v _ => .bad
section
variable {G : Gz} {X : Cx} {W : WX} {k kc : Nat} {x : Str} {p pos kpos : Pos} {e ke : Expr} {f : Ev → Mo D} {cf : Ev → Mo DC}
theorem se_sortK (C : Cz G X W k) (hfn : ∀ x, X.fn x = true) (hk : kc + 1 ≤ k) (hg : Gl X "sorted") (hm : X.mg "sorted" = none) (ha : PE X e (tE G W f)) (hke : PE X ke (tQ X G kc W cf))
    (he : backTo pos (starEach [e] X.env) = (false, eval e X.env) :: backTo pos (starEach [] X.env) := by rfl) (hpl : (backTo pos (starEach [e] X.env)).any (·.1) = false := by rfl) (hst : starEach [e] X.env = (false, eval e X.env) :: starEach [] X.env := by rfl)
    (hall : (backToKw pos (keywordEach [⟨some "key", ke, kpos⟩] X.env)).all (·.1.isSome) = true := by rfl) (hnone : (backToKw pos (keywordEach [⟨some "key", ke, kpos⟩] X.env)).any (·.1.isNone) = false := by rfl) (hks : (backToKw pos (keywordEach [⟨some "key", ke, kpos⟩] X.env)).filterMap (·.1) = [Str.ofString "key"] := by rfl) :
    PE X (.Call (.Name "sorted" p) [e] [⟨some "key", ke, kpos⟩] pos) (tE G W (cSortK f cf)) := by
  refine ⟨fun pins s σ H Q I ⟨ρ, as, st, re, rs, hp⟩ => ?_⟩
  refine wpAny_Call_Name_kw (ld_blt I hg hm (show bootBuiltins "sorted" = some (.builtin "sorted") from rfl) ?_ (by decide) (by decide))
  refine PyProof.Rows.callWith_kw (thn ((pa_cons ha (pa_nil) hst).run pos pins s σ H (fun vs H1 => ∃ v d as1 st1, vs = [v] ∧ Gr H as H1 as1 ∧ Rs G as1 st1 H1 ∧ RV G H1 as1 d v ∧ Post G (RV G) H1 as1 (fun c d H' => W c d σ H') Q ((cf ρ st1).bind fun c st2 => match c with
  | .clo g => match listedD d st2 with
    | some l => (keyL g l st2).bind fun ks st3 => if okSort ks = true then .ok (.dat (.list (sortK l ks))) st3 else .bad
    | none => .bad
  | .v _ => .bad)) I ⟨ρ, as, st, re, rs, (Post.bind hp).mono fun x H1 ⟨a, as1, st1, _, g1, rs1, ra, hp1⟩ => ⟨x, a, as1, st1, rfl, g1, rs1, ra, hp1⟩⟩) fun us s1 ⟨vs, H1, I1, r1, v, d, as1, st1, ev, g1, rs1, rd1, hp1⟩ => ?_) he hpl hall hnone
  subst ev
  obtain ⟨u, rfl, ru⟩ := r1.one
  refine thn ((pk_cons (kws := []) (nm := some "key") (kpos := kpos) hke pk_nil).run pos pins s1 σ H1 (fun zs H2 => ∃ z c as2 st2, zs = [z] ∧ Gr H1 as1 H2 as2 ∧ Rs G as2 st2 H2 ∧ RQ X G kc σ H2 as2 c z ∧ Post G (RV G) H2 as2 (fun c d H' => W c d σ H') Q (match c with
  | .clo g => match listedD d st2 with
    | some l => (keyL g l st2).bind fun ks st3 => if okSort ks = true then .ok (.dat (.list (sortK l ks))) st3 else .bad
    | none => .bad
  | .v _ => .bad)) I1 ⟨ρ, as1, st1, re.gr g1, rs1, (Post.bind hp1).mono fun z H2 ⟨c, as2, st2, _, g2, rs2, rc, hp2⟩ => ⟨z, c, as2, st2, rfl, g2, rs2, rc, hp2⟩⟩) fun ws s2 ⟨zs, H2, I2, r2, z, c, as2, st2, ez, g2, rs2, rc, hp2⟩ => ?_
  subst ez
  obtain ⟨w, rfl, rw'⟩ := r2.one
  rw [hks]
  cases c with
  | v d => exact hp2.elim
  | clo g =>
    have hp2 : Post G (RV G) H2 as2 (fun c d H' => W c d σ H') Q (match listedD d st2 with
      | some l => (keyL g l st2).bind fun ks st3 => if okSort ks = true then .ok (.dat (.list (sortK l ks))) st3 else .bad
      | none => .bad) := hp2
    cases el : listedD d st2 with
    | none => rw [el] at hp2; exact hp2.elim
    | some l =>
      rw [el] at hp2
      obtain ⟨a, xs, ev, src, dq⟩ := listed_ok rs2 (rd1.gr g2) el
      subst ev
      obtain rfl : u = .ref a := ru
      obtain ⟨px, _⟩ := pinH_ok hfn I2
      obtain ⟨f0, ez, _⟩ := rc _ px
      subst ez
      obtain rfl : w = .ref f0 := rw'
      have eK := C.fit.K
      have kok : KeyOk X G.toGx σ (.ref f0) g H2 as2 := keyOk_clo C hfn hk rc
      show wpAny _ _ (call (.builtin "sorted") [.ref a] [(Str.ofString "key", .ref f0)]) _ _ _
      rcases src with hs | ⟨es, ep, hd, rk⟩
      · obtain ⟨its, rv, pl, hz⟩ := I2.list (by rw [eK]; exact hs)
        have hl : its.length ≤ sizeLine := by rw [← rv.length]; exact hz
        exact sortK_run (fun a => PyProof.Rows.ksk_t1 f0 a) eK C.hu I2 rs2 (coll_list pl.isList hl) hl rv dq kok hp2
      · obtain ⟨hr, hlo, hz⟩ := raw_at I2 hd
        exact sortK_run (fun a => PyProof.Rows.ksk_t1 f0 a) eK C.hu I2 rs2 (coll_raw (A := X.A.in1) (show X.A.in1.handled = none from I2.ok.hd C.calm) hlo hr hz) (by rw [List.length_map, Array.length_toList]; exact hz) (rk _ rfl) dq kok hp2
end
end Zp

set_option Elab.async false
set_option linter.all false
set_option autoImplicit false
set_option maxRecDepth 100000
set_option maxHeartbeats 4000000
namespace Zp
open PySem PySem.Spec PyProof.Rows L2
/-! ### dict comprehensions -/
/-- pairs put into a dict, from the left -/
def putAll : Dic → List D → Option Dic
  | l, [] => some l
  | l, .tup [.dat k, .dat x] :: r => if okK l k = true ∧ l.length < lim then putAll (putD l k x) r else none
  | _, _ :: _ => none
/-- a pair -/
def isPr : D → Option (PyData × PyData)
  | .tup [.dat k, .dat x] => some (k, x)
  | _ => none
theorem putAll_cons (l : Dic) (p : D) (r : List D) : putAll l (p :: r) = match isPr p with
    | some (k, x) => if okK l k = true ∧ l.length < lim then putAll (putD l k x) r else none
    | none => none := by
  unfold isPr
  split
  · rename_i k x e
    split at e
    · cases e; rfl
    · cases e
  · rename_i e
    split at e
    · cases e
    · rename_i hne
      unfold putAll
      split
      · rename_i e; cases e
      · rename_i k y r e
        cases e
        exact absurd rfl (hne _ _)
      · rfl
theorem putAll_app : ∀ (a : List D) (l : Dic) (b : List D), putAll l (a ++ b) = (putAll l a).bind fun m => putAll m b
  | [], l, b => rfl
  | x :: a, l, b => by
    rw [List.cons_append, putAll_cons, putAll_cons]
    cases isPr x with
    | none => rfl
    | some p =>
      show (if _ then _ else _) = Option.bind (if _ then _ else _) _
      by_cases h : okK l p.1 = true ∧ l.length < lim
      · rw [if_pos h, if_pos h]; exact putAll_app a _ b
      · rw [if_neg h, if_neg h]; rfl
abbrev Fb.dic (G : Gx) (H : Hp) (as : As) (A : Addr) : Fb G := ⟨H, as, A, fun H as acc => ∃ l es ep kvs, putAll [] acc = some l ∧ H A = some (rawO A es ep) ∧ DicOk G H as l es kvs,
  fun g e ⟨l, es, ep, kvs, h1, h2, h3⟩ => ⟨l, es, ep, kvs, h1, e.trans h2, h3.gk g⟩, fun acc => ∃ l, putAll [] acc = some l, fun ⟨l, h⟩ => by
    rw [putAll_app] at h
    cases e : putAll [] _ with
    | none => rw [e] at h; cases h
    | some m => exact ⟨m, rfl⟩⟩
/-- one clause's turn -/
def stepD (t : Tg) (c : Ev → Mo Bool) (fk fv : Ev → Mo D) (ρ : Ev) : D → Mo (List D) := fun x st => (nx (t x ρ st)).bind fun ρ1 st1 => (nx (c ρ1 st1)).bind fun b st2 =>
  if b = true then (nx (fk ρ1 st2)).bind fun y st3 => (nx (fv ρ1 st3)).bind fun z st4 => match y, z with
    | .dat k, .dat x => .ok [.tup [.dat k, .dat x]] st4
    | _, _ => .bad
  else .ok [] st2
def finD (ys : List D) : Mo D := fun st => match putAll [] ys with
  | some l => .ok (.ref st.length) (st ++ [.dic false l])
  | none => .bad
def cCompD (fi : Ev → Mo Src) (vs : List Nat) (step : Ev → D → Mo (List D)) (ρ : Ev) : Mo D := fun st => (fi ρ st).bind fun src st1 => (nx (compS src (step (forget ρ vs)) st1)).bind finD
/-- one more -/
theorem FI.put {G : Gx} {H0 : Hp} {a0 : As} {A : Addr} {as : As} {st : List Cell} {H : Hp} {acc : List D} {k x : PyData} {y z : V} {R : Hp → Prop} (h : FI G (Fb.dic G H0 a0 A) as st H acc) (hk : Dq G.K H as y k) (hx : Dq G.K H as z x) (ok : ∃ l, putAll [] (acc ++ [.tup [.dat k, .dat x]]) = some l)
    (hR : ∀ H', Gk H as H' as → FI G (Fb.dic G H0 a0 A) as st H' (acc ++ [.tup [.dat k, .dat x]]) → R H') : NPut G.K G.w H A y z R := by
  obtain ⟨l, es, ep, kvs, h1, h2, h3⟩ := h.at_
  obtain ⟨m, hm⟩ := ok
  rw [putAll_app, h1] at hm
  have hm : (if okK l k = true ∧ l.length < lim then putAll (putD l k x) [] else none) = some m := hm
  by_cases hok : okK l k = true ∧ l.length < lim
  · rw [if_pos hok] at hm
    cases hm
    obtain ⟨nk, ek, dk, c⟩ := ok_cls h3 hok.1
    refine ⟨kvs, es, ep, nk, h2, h3.lie, NKv.of hk ek, dk, c, by rw [← it_len h3.it, ← lim_eq]; exact hok.2, fun es2 ep2 hd2 => ?_⟩
    have g : Gk H as (upd H A (rawO A es2 ep2)) as := Gk.fill h.rs h.mem
    refine hR _ g ⟨h.gk.trans g, h.suf, fun b hb => by rw [upd_ne (h.ne b hb)]; exact h.held b hb, h.rs.fill h.mem (.inr (.inl ⟨_, _, rfl⟩)), ⟨_, es2, ep2, putK kvs nk z, ?_, upd_same, hd2, Paired.mapP (put_it ek hx h3.it) fun p q ⟨e, r⟩ => ⟨e, r.gk g⟩⟩, h.ne⟩
    rw [putAll_app, h1]
    show (if okK l k = true ∧ l.length < lim then putAll (putD l k x) [] else none) = _
    rw [if_pos hok]; rfl
  · rw [if_neg hok] at hm; cases hm
theorem turnD {G : Gz} {H0 : Hp} {a0 : As} {A : Addr} {t : Tg} {c : Ev → Mo Bool} {fk fv : Ev → Mo D} {vs : List Nat} {ρ0 : Ev} {σ : L2.St} {Hb : Hp} {ab : As} (re0 : RE G Hb ab ρ0 (L2.wipe σ vs))
    (d : D) (v : V) (as : As) (st : List Cell) (H : Hp) (acc : List D) (Nx : Hp → Prop) (g : Gk Hb ab H as) (fi : FI G (Fb.dic G H0 a0 A) as st H acc) (rd : RV G H as d v) (hp : PF G (Fb.dic G H0 a0 A) acc H as Nx (stepD t c fk fv ρ0 d st)) :
    tGw G vs t v (L2.wipe σ vs) H fun σ2 H2 => L2.wipe σ2 vs = L2.wipe σ vs ∧ tB G W0 c σ2 H2 fun b H3 => if b = true then tE G W0 fk σ2 H3 (fun y H4 => tE G W0 fv σ2 H4 fun z H5 => NPut G.K G.w H5 A y z Nx) else Nx H3 := by
  refine ⟨ρ0, d, as, st, re0.gk g, rd, fi.rs, (PF.bind hp).mono fun σ2 H2 ⟨ρ1, as2, st2, g2, rs2, ⟨re2, w2⟩, hp2⟩ => ⟨w2.trans (wipe_wipe fun _ z => z), ?_⟩⟩
  have f2 := fi.gr g2 rs2
  refine ⟨ρ1, as2, st2, re2, rs2, (PF.bind hp2).mono fun b H3 ⟨b', as3, st3, g3, rs3, e3, hp3⟩ => ?_⟩
  subst e3
  have f3 := f2.gr g3 rs3
  cases b' with
  | false =>
    rw [if_neg Bool.false_ne_true] at hp3 ⊢
    exact hp3.2 as3 H3 (Gk.refl _ _) (by rw [List.append_nil]; exact f3)
  | true =>
    rw [if_pos rfl] at hp3 ⊢
    refine ⟨ρ1, as3, st3, re2.gr g3, rs3, (PF.bind hp3).mono fun y H4 ⟨yd, as4, st4, g4, rs4, ry, hp4⟩ => ?_⟩
    have f4 := f3.gr g4 rs4
    refine ⟨ρ1, as4, st4, (re2.gr g3).gr g4, rs4, (PF.bind hp4).mono fun z H5 ⟨zd, as5, st5, g5, rs5, rz, hp5⟩ => ?_⟩
    have f5 := f4.gr g5 rs5
    cases yd with
    | dat k =>
      cases zd with
      | dat x =>
        have ry' := ry.gr g5
        cases ry' with
        | dat dy =>
        cases rz with
        | dat dz => exact FI.put f5 dy dz hp5.1 fun H' g' f' => hp5.2 as5 H' g' f'
      | _ => exact hp5.elim
    | _ => exact hp5.elim
theorem comp_endD {G : Gx} {H1 H : Hp} {as1 as : As} {A : Addr} {st st1 : List Cell} {ys : List D} {E : XK} {Q : VK} (rs1 : Rs G as1 st1 H1) (hA : H1 A = none) (fi : FI G (Fb.dic G H1 as1 A) as st H ys) (hp : Post G (RV G) H1 as1 E Q (finD ys st)) : Q (.ref A) H := by
  obtain ⟨l, es, ep, kvs, h1, e, hd⟩ := fi.at_
  have nb := rs1.fresh hA
  have hsub : as1.h ⊆ as.h := fun x hx => fi.suf.subset (List.mem_cons_of_mem _ hx)
  have nm : A ∉ as.m := (fi.rs.hd A fi.mem).1
  unfold finD at hp
  rw [h1] at hp
  have ls2 : ∀ b, (As.add ⟨as.m, as1.h⟩ A).bad b → as.bad b := fun b z => by
    rcases z with z | z
    · rcases List.mem_append.mp z with z | z
      · exact .inl z
      · rw [List.mem_singleton.mp z]; exact .inr fi.mem
    · exact .inr (hsub z)
  have rs' : Rs G ⟨as.m, as1.h⟩ st H := fi.rs.hide rfl hsub
  refine hp (As.add ⟨as.m, as1.h⟩ A) (.ref A) H ⟨⟨fi.gk.fix, fun b o h1 h2 h3 => ⟨(fi.gk.keep b o h1 h2 h3).1, fun z => (fi.gk.keep b o h1 h2 h3).2 (ls2 b z)⟩, fi.gk.pre.trans (List.prefix_append _ _)⟩, List.suffix_refl _, fi.held⟩ ⟨?_, ?_, fun m b d e1 e2 => ?_, fi.rs.tabs, fun b hb => ⟨fun z => ?_, (rs'.hd b hb).2⟩⟩ (.ref ?_)
  · exact List.nodup_append.mpr ⟨fi.rs.nd, by simp, fun x hx y hy z => nm (by rw [List.mem_singleton] at hy; rw [← hy, ← z]; exact hx)⟩
  · show (as.m ++ [A]).length = _
    have := fi.rs.len
    simp only [List.length_append, List.length_singleton]
    omega
  · have e1 : (as.m ++ [A])[m]? = some b := e1
    have l2 := fi.rs.len
    by_cases hm : m < as.m.length
    · rw [List.getElem?_append_left hm] at e1
      rw [List.getElem?_append_left (by rw [← l2]; exact hm)] at e2
      exact (fi.rs.cell m b d e1 e2).less ls2
    · rw [List.getElem?_append_right (by omega)] at e1
      rw [List.getElem?_append_right (by rw [← l2]; omega), ← l2] at e2
      have e0 : m - as.m.length = 0 := by
        have := (List.getElem?_eq_some_iff.mp e1).1
        simp at this; omega
      rw [e0] at e1 e2
      simp at e1 e2
      subst e1; subst e2
      exact ⟨es, ep, kvs, by unfold LkOk; rw [if_neg Bool.false_ne_true]; exact e, hd.less ls2⟩
  · rcases List.mem_append.mp z with z | z
    · exact (rs'.hd b hb).1 z
    · rw [List.mem_singleton] at z
      exact nb (.inr (z ▸ hb))
  · show (as.m ++ [A])[st.length]? = some A
    rw [← fi.rs.len]; simp
theorem dlie_nil {K : PySem.W.Frag} {w : World} {H : Hp} : DLie K w H [] #[] := ⟨.nil, by simp, fun p hp => by simp at hp⟩
theorem dc_imp {G : Gz} {X : Cx} {W : WX} {fi : Ev → Mo Src} {vs : List Nat} {t : Tg} {c : Ev → Mo Bool} {fk fv : Ev → Mo D} (σ : L2.St) (H : Hp) (Q : VK) (h : tE G W (cCompD fi vs (stepD t c fk fv)) σ H Q) :
    tDcN G.K G.w (tI G W fi) (tGw G vs t) (tB G W0 c) (tE G W0 fk) (tE G W0 fv) vs σ H Q := by
  obtain ⟨ρ, as, st, re, rs, hp⟩ := h
  refine ⟨ρ, as, st, re, rs, (Post.bind hp).mono fun J H1 ⟨src, as1, st1, _, g1, rs1, hsrc, hp1⟩ A hA => ?_⟩
  cases e : compS src (stepD t c fk fv (forget ρ vs)) st1 with
  | exc x s => rw [e] at hp1; exact hp1.elim
  | bad => rw [e] at hp1; exact hp1.elim
  | ok ys st2 =>
    rw [e] at hp1
    have hp1 : Post G (RV G) H1 as1 (fun c d H' => W c d σ H') Q (finD ys st2) := hp1
    have gp := Gr.push (o := rawO A #[] 0) rs1 hA
    have f0 : FI G (Fb.dic G H1 as1 A) (as1.push A) st1 (upd H1 A (rawO A #[] 0)) [] :=
      ⟨gp.toGk, List.suffix_refl _, fun b hb => upd_ne fun z => rs1.fresh hA (.inr (z ▸ hb)), rs1.push hA (.inr (.inl ⟨_, _, rfl⟩)), ⟨[], #[], 0, [], rfl, upd_same, dlie_nil, .nil⟩, fun b hb z => rs1.fresh hA (.inr (by have z : b = A := z; exact z ▸ hb))⟩
    refine comp_loop (F := fun H => Q (.ref A) H) hsrc (turnD (H0 := H1) (a0 := as1) (A := A) (vs := vs) (t := t) (c := c) (fk := fk) (fv := fv) ((re.gr g1).wipe vs)) gp.toGk f0 ?_
    rw [e]
    refine ⟨?_, fun as' H' _ fi' => comp_endD rs1 hA fi' hp1⟩
    unfold finD at hp1
    show ∃ l, putAll [] ([] ++ ys) = some l
    rw [List.nil_append]
    cases ep : putAll [] ys with
    | none => rw [ep] at hp1; exact hp1.elim
    | some l => exact ⟨l, rfl⟩
section
variable {G : Gz} {X : Cx} {W : WX} {k : Nat} {kx vx tg iter : Expr} {ifs : List Expr} {scope : Scope} {own : List (Str × Nat)} {pos : Pos} {fi : Ev → Mo Src} {t : Tg} {c : Ev → Mo Bool} {fk fv : Ev → Mo D}
theorem se_dcomp (C : Cz G X W k) (hN : X.N.Nodup) (hi : PI X tg iter (tI G W fi)) (ok : BlkOk X.N X.env.scope scope own)
    (hg : ∀ s H Cc cl fp, Cz G (X.blk s H scope (compEnvC scope cl Cc X.env) fp) W0 k → PG (X.blk s H scope (compEnvC scope cl Cc X.env) fp) tg (tGw G (own.map (·.2)) t))
    (ht : ∀ s H Cc cl fp, Cz G (X.blk s H scope (compEnvC scope cl Cc X.env) fp) W0 k → PTs (X.blk s H scope (compEnvC scope cl Cc X.env) fp) ifs (tB G W0 c))
    (hk : ∀ s H Cc cl fp, Cz G (X.blk s H scope (compEnvC scope cl Cc X.env) fp) W0 k → PE (X.blk s H scope (compEnvC scope cl Cc X.env) fp) kx (tE G W0 fk))
    (he : ∀ s H Cc cl fp, Cz G (X.blk s H scope (compEnvC scope cl Cc X.env) fp) W0 k → PE (X.blk s H scope (compEnvC scope cl Cc X.env) fp) vx (tE G W0 fv))
    (hs : ∀ x, foldedSetIterable iter X.env x = pure x := by intro _; rfl) :
    PE X (.DictComp kx vx [⟨tg, iter, ifs, 0⟩] scope pos) (tE G W (cCompD fi (own.map (·.2)) (stepD t c fk fv))) := by
  have eK := C.fit.K
  have ew := C.fit.w
  refine PE.imp (pe_dcN C.calm hN (by have := C.hu; omega) hi ok (fun s H Cc cl fp => hg s H Cc cl fp (C.blk _ _ _ _ _)) (fun s H Cc cl fp => ht s H Cc cl fp (C.blk _ _ _ _ _)) (fun s H Cc cl fp => hk s H Cc cl fp (C.blk _ _ _ _ _)) (fun s H Cc cl fp => he s H Cc cl fp (C.blk _ _ _ _ _)) hs) ?_
  rw [eK, ew]
  exact fun σ H Q h => dc_imp (X := X) σ H Q h
end
end Zp

set_option Elab.async false
set_option linter.all false
set_option autoImplicit false
set_option maxRecDepth 100000
set_option maxHeartbeats 4000000
namespace Zp
open PySem PySem.Spec PyProof.Rows L2
/-! ### instances -/
/-- an instance's class, its attributes -/
def objOf : D → List Cell → Option (Str × List (Str × D))
  | .obj c fs, _ => some (c, fs)
  | .ref n, st => match st[n]? with
    | some (.obj c fs) => some (c, fs)
    | _ => none
  | _, _ => none
theorem objOf_ok {G : Gx} {H : Hp} {as : As} {st : List Cell} {d : D} {v : V} {c : Str} {fs : List (Str × D)} (rs : Rs G as st H) (r : RV G H as d v) (e : objOf d st = some (c, fs)) :
    ∃ a C dx vfs, v = .ref a ∧ c ∈ G.cl ∧ G.mg c = some (.ref C) ∧ H a = some (.ins C dx vfs) ∧ vfs.map (·.1) = fs.map (·.1) ∧ RVs G H as (fs.map (·.2)) (vfs.map (·.2)) := by
  unfold objOf at e
  split at e
  · cases e
    cases r with
    | obj h0 h1 h2 h3 h4 h5 => exact ⟨_, _, _, _, rfl, h0, h1, h2, h4, h5⟩
  · cases r with
    | @ref n a ea =>
    split at e
    · rename_i el
      cases e
      obtain ⟨C, dx, vfs, h0, h1, h2, h3, _, h5⟩ := rs.cell _ _ _ ea el
      exact ⟨a, C, dx, vfs, rfl, h0, h1, h2, h3, h5⟩
    · cases e
  · cases e
theorem fs_look {G : Gx} {H : Hp} {as : As} (x : Str) : ∀ {fs : List (Str × D)} {vfs : List (Str × V)}, vfs.map (·.1) = fs.map (·.1) → RVs G H as (fs.map (·.2)) (vfs.map (·.2)) → ∀ {d : D}, fs.lookup x = some d → ∃ v, vfs.lookup x = some v ∧ RV G H as d v
  | [], _, _, _, _, e => by cases e
  | (y, d) :: fs, [], h, _, _, _ => by cases h
  | (y, d) :: fs, (z, v) :: vfs, h, r, d', e => by
    rw [List.map_cons, List.map_cons] at h
    obtain ⟨h1, h2⟩ := List.cons.inj h
    have h1 : z = y := h1
    subst h1
    cases r with
    | cons r1 r2 =>
      rw [List.lookup_cons] at e ⊢
      by_cases q : (x == z) = true
      · rw [q] at e ⊢; cases e; exact ⟨v, rfl, r1⟩
      · rw [Bool.not_eq_true] at q
        rw [q] at e ⊢
        exact fs_look x h2 r2 e
def setF (f : Str) (v : D) : List (Str × D) → List (Str × D)
  | [] => [(f, v)]
  | (g, x) :: r => if g = f then (g, v) :: r else (g, x) :: setF f v r
theorem fs_put {G : Gx} {H : Hp} {as : As} (x : Str) {d : D} {v : V} (q : RV G H as d v) : ∀ {fs : List (Str × D)} {vfs : List (Str × V)}, vfs.map (·.1) = fs.map (·.1) → RVs G H as (fs.map (·.2)) (vfs.map (·.2)) →
    (putF x v vfs).map (·.1) = (setF x d fs).map (·.1) ∧ RVs G H as ((setF x d fs).map (·.2)) ((putF x v vfs).map (·.2))
  | [], [], _, _ => ⟨rfl, .cons q .nil⟩
  | [], _ :: _, h, _ => by cases h
  | _ :: _, [], h, _ => by cases h
  | (y, e) :: fs, (z, u) :: vfs, h, r => by
    rw [List.map_cons, List.map_cons] at h
    obtain ⟨h1, h2⟩ := List.cons.inj h
    have h1 : z = y := h1
    subst h1
    cases r with
    | cons r1 r2 =>
      unfold setF putF
      by_cases k : z = x
      · rw [if_pos k, if_pos k]; exact ⟨by rw [List.map_cons, List.map_cons, h2], .cons q r2⟩
      · rw [if_neg k, if_neg k]
        obtain ⟨i1, i2⟩ := fs_put x q h2 r2
        exact ⟨by rw [List.map_cons, List.map_cons, i1], .cons r1 i2⟩
theorem setF_low (x : Str) {d : D} (hd : low 0 d = true) : ∀ {fs : List (Str × D)}, lowF 0 fs = true → lowF 0 (setF x d fs) = true
  | [], _ => by unfold setF; simp [lowF, hd]
  | (y, e) :: fs, h => by
    unfold setF
    unfold lowF at h
    rw [Bool.and_eq_true] at h
    by_cases k : y = x
    · rw [if_pos k]; unfold lowF; rw [Bool.and_eq_true]; exact ⟨hd, h.2⟩
    · rw [if_neg k]; unfold lowF; rw [Bool.and_eq_true]; exact ⟨h.1, setF_low x hd h.2⟩
/-- e.x, an attribute of instances of the classes cs -/
def cFld (cs : List Str) (x : Str) (f : Ev → Mo D) (ρ : Ev) : Mo D := fun st => (f ρ st).bind fun d st1 => match objOf d st1 with
  | some (c, fs) => if c ∈ cs then (match fs.lookup x with
    | some v => .ok v st1
    | none => .bad) else .bad
  | none => .bad
/-- e.x, a property; tb: the getters by class -/
def cProp (tb : List (Str × (List DC → Mo D))) (f : Ev → Mo D) (ρ : Ev) : Mo D := fun st => (f ρ st).bind fun d st1 => match objOf d st1 with
  | some (c, _) => match tb.lookup c with
    | some g => nx (g [.v d] st1)
    | none => .bad
  | none => .bad
def PropF (G : Gz) (j : Nat) (x c : Str) (g : List DC → Mo D) : Prop := ∀ C, G.mg c = some (.ref C) → ∃ p ga fd ps, L2.PropOf G.K C x p ga ∧ FnOk G.P G.w G.K G.mg G.base (L2.CX G.P G.w) j ga fd ps (spOf G 1 g) ∧ Binds G.K fd ps []
theorem lookup_of {α : Type} {c : Str} {g : α} : ∀ {tb : List (Str × α)}, tb.lookup c = some g → (c, g) ∈ tb
  | [], e => by cases e
  | (y, h) :: tb, e => by
    rw [List.lookup_cons] at e
    by_cases q : (c == y) = true
    · rw [q] at e; cases e; rw [beq_iff_eq.mp q]; exact List.mem_cons_self
    · rw [Bool.not_eq_true] at q
      rw [q] at e; exact List.mem_cons_of_mem _ (lookup_of e)
theorem passF {X : Cx} : Passes (L2.CX X.prog X.w) X.nox (fun _ _ _ => False) := fun pins σ H s e s' I h => by
  obtain ⟨_, _, _, _, _, _, _, _, _, _, _, _, z⟩ := h
  exact z.elim
section
variable {G : Gz} {X : Cx} {W : WX} {k j : Nat} {e o value : Expr} {pos pos' : Pos} {x : Str} {f fo fv : Ev → Mo D}
theorem se_fld {cs : List Str} (C : Cz G X W k) (hc : ∀ c ∈ cs, ∀ Ca, G.mg c = some (.ref Ca) → L2.Cls G.K Ca ∧ L2.NoAttr G.K Ca x) (h : PE X e (tE G W f)) (hb : attributeBase e x X.env (eval e X.env) = eval e X.env := by rfl) : PE X (.Attribute e x pos) (tE G W (cFld cs x f)) :=
  PE.imp (pe_fld h hb) fun σ H Q ⟨ρ, as, st, re, rs, hp⟩ => ⟨ρ, as, st, re, rs, (Post.bind hp).mono fun v H1 ⟨d, as1, st1, _, g1, rs1, ra, hp1⟩ => by
    have eK := C.fit.K
    cases eo : objOf d st1 with
    | none => rw [eo] at hp1; exact hp1.elim
    | some p =>
      obtain ⟨c, fs⟩ := p
      rw [eo] at hp1
      obtain ⟨a, Ca, dx, vfs, rfl, h0, h1, h2, h3, h4⟩ := objOf_ok rs1 ra eo
      have hp1 : Post G (RV G) H1 as1 (fun c d H' => W c d σ H') Q (if c ∈ cs then (match fs.lookup x with
        | some v => .ok v st1
        | none => .bad) else .bad) := hp1
      by_cases hm : c ∈ cs
      · rw [if_pos hm] at hp1
        cases el : fs.lookup x with
        | none => rw [el] at hp1; exact hp1.elim
        | some y =>
          rw [el] at hp1
          obtain ⟨v, e1, r⟩ := fs_look x h3 h4 el
          obtain ⟨c1, c2⟩ := hc c hm Ca h1
          exact ⟨a, Ca, dx, vfs, v, rfl, h2, by rw [eK]; exact c1, by rw [eK]; exact c2, e1, hp1 as1 v H1 (Gr.refl _ _) rs1 r⟩
      · rw [if_neg hm] at hp1; exact hp1.elim⟩
theorem se_prop {tb : List (Str × (List DC → Mo D))} (C : Cz G X W k) (hB : X.base = G.base) (hj : j + 1 ≤ k) (hc : ∀ c g, (c, g) ∈ tb → (∀ Ca, G.mg c = some (.ref Ca) → L2.Cls G.K Ca) ∧ PropF G j x c g) (h : PE X e (tE G W f)) (hb : attributeBase e x X.env (eval e X.env) = eval e X.env := by rfl) :
    PE X (.Attribute e x pos) (tE G W (cProp tb f)) := by
  refine ⟨fun pins s σ H Q I ⟨ρ, as, st, re, rs, hp⟩ => ?_⟩
  refine attr_of hb (thn (h.run pins s σ H _ I ⟨ρ, as, st, re, rs, Post.bind hp⟩) fun u s1 ⟨v, H1, I1, rx, d, as1, st1, _, g1, rs1, ra, hp1⟩ => ?_)
  cases eo : objOf d st1 with
  | none => rw [eo] at hp1; exact hp1.elim
  | some p =>
    obtain ⟨c, fs⟩ := p
    rw [eo] at hp1
    obtain ⟨a, Ca, dx, vfs, rfl, h0, h1, h2, h3, h4⟩ := objOf_ok rs1 ra eo
    obtain rfl : u = Value.ref a := rx
    have hp1 : Post G (RV G) H1 as1 (fun c d H' => W c d σ H') Q (match tb.lookup c with
      | some g => nx (g [.v d] st1)
      | none => .bad) := hp1
    cases el : tb.lookup c with
    | none => rw [el] at hp1; exact hp1.elim
    | some g =>
      rw [el] at hp1
      have hp1 : Post G (RV G) H1 as1 (fun c d H' => W c d σ H') Q (nx (g [.v d] st1)) := hp1
      obtain ⟨cl, pf⟩ := hc c g (lookup_of el)
      obtain ⟨p, ga, fd, ps, po, Fn, bd⟩ := pf Ca h1
      have F := C.fit
      rw [← F.P, ← F.w, ← F.K, ← F.mg, ← hB] at Fn
      rw [← F.K] at po bd
      refine getprop_ok (E := fun _ _ _ => False) I1 h2 (by rw [F.K]; exact cl Ca h1) po Fn (C.room.mono hj) bd .nil passF ?_
      refine ⟨[.v d], as1, st1, rfl, .cons ra .nil, rs1, ?_⟩
      cases eg : g [.v d] st1 with
      | ok y st2 => rw [eg] at hp1; exact hp1
      | exc y st2 => rw [eg] at hp1; exact hp1.elim
      | bad => rw [eg] at hp1; exact hp1.elim
/-- e.x = value -/
def sFldZ (cs : List Str) (x : Str) (fo fv : Ev → Mo D) (ρ : Ev) : Mo Fl := fun st => (fv ρ st).bind fun d st1 => (fo ρ st1).bind fun o st2 => match o with
  | .ref n => match st2[n]? with
    | some (.obj c fs) => if c ∈ cs ∧ fs.length < 1000 ∧ low 0 d = true then .ok (.nx ρ) (st2.set n (.obj c (setF x d fs))) else .bad
    | _ => .bad
  | _ => .bad
theorem sp_fld {cs : List Str} (C : Cz G X W k) (hc : ∀ c ∈ cs, ∀ Ca, G.mg c = some (.ref Ca) → L2.Cls G.K Ca ∧ L2.NoAttr G.K Ca x) (ho : PE X o (tE G W fo)) (hv : PE X value (tE G W fv)) (hs : swapsWith value (some (.Attribute o x pos')) pos.line X.env = pure false := by rfl) :
    PS X (.Assign [.Attribute o x pos'] value pos) (tS G W (sFldZ cs x fo fv)) :=
  PS.imp (ps_fld ho hv hs) fun D σ H ⟨ρ, as, st, re, rs, hp⟩ => ⟨ρ, as, st, re, rs, (PostS.bind hp).mono fun v H1 ⟨d, as1, st1, _, g1, rs1, ra, hp1⟩ => ⟨ρ, as1, st1, re.gr g1, rs1, (PostS.bind hp1).mono fun ov H2 ⟨o, as2, st2, _, g2, rs2, ro, hp2⟩ => by
    have eK := C.fit.K
    cases ro with
    | @ref n a ea =>
      have hp2 : PostS G H2 as2 W D (match st2[n]? with
        | some (.obj c fs) => if c ∈ cs ∧ fs.length < 1000 ∧ low 0 d = true then .ok (.nx ρ) (st2.set n (.obj c (setF x d fs))) else .bad
        | _ => .bad) := hp2
      cases ec : st2[n]? with
      | none => rw [ec] at hp2; exact hp2.elim
      | some cc =>
        rw [ec] at hp2
        cases cc with
        | lst l => exact hp2.elim
        | dic fr l => exact hp2.elim
        | obj c fs =>
          have hp2 : PostS G H2 as2 W D (if c ∈ cs ∧ fs.length < 1000 ∧ low 0 d = true then .ok (.nx ρ) (st2.set n (.obj c (setF x d fs))) else .bad) := hp2
          by_cases hm : c ∈ cs ∧ fs.length < 1000 ∧ low 0 d = true
          · rw [if_pos hm] at hp2
            obtain ⟨Ca, dx, vfs, h0, h1, h2, h3, h4, h5⟩ := rs2.cell n a _ ea ec
            obtain ⟨c1, c2⟩ := hc c hm.1 Ca h1
            have hl : vfs.length = fs.length := by have := congrArg List.length h3; rw [List.length_map, List.length_map] at this; exact this
            have nf : ∃ u, H2 a = some u ∧ ¬ Fixd u := ⟨_, h2, id⟩
            have g := Gr.mut (o := .ins Ca dx (putF x v vfs)) rs2 (List.mem_of_getElem? ea) nf
            refine ⟨a, Ca, dx, vfs, rfl, h2, by rw [eK]; exact c1, by rw [eK]; exact c2, by rw [hl]; exact hm.2.1, ?_⟩
            obtain ⟨i1, i2⟩ := fs_put x (ra.gr g2) h3 h5
            exact hp2 as2 σ _ g (rs2.mut ea nf ⟨Ca, dx, putF x v vfs, h0, h1, upd_same, i1, setF_low x hm.2.2 h4, RVs.gr g i2⟩) (((re.gr g1).gr g2).gr g)
          · rw [if_neg hm] at hp2; exact hp2.elim
    | dat _ => exact hp2.elim
    | obj _ _ _ _ _ _ => exact hp2.elim
    | tup _ _ => exact hp2.elim
    | lst _ _ => exact hp2.elim⟩⟩
end
end Zp

set_option Elab.async false
set_option linter.all false
set_option autoImplicit false
set_option maxRecDepth 100000
set_option maxHeartbeats 4000000
namespace Zp
open PySem PySem.Spec PyProof.Rows L2
/-! ### instances are made -/
section
variable {X : Cx} {CX : CXT} {k : Nat} {f C : Addr} {fd : FuncData} {ps : List Str} {sp : Sp} {E : XK}
theorem run_makeS {pins : List (Addr × Obj)} {σ : L2.St} {H : Hp} {s : Shared} {Q : VK} {us : List Value} {vs : List V} (M : Mk X.K C f) (F : FnOk X.prog X.w X.K X.mg X.base CX k f fd ps sp) (hr : Room (k + 1) X.A) (hb : Binds X.K fd ps [])
    (hx : PassesAt CX X σ E) (I : L2.Inv X pins σ H s) (r : Vals vs us)
    (h : ∀ x dx, H x = none → H dx = none → dx ≠ x → sp (.ref x :: vs) (upd (upd H dx (.own x)) x (.ins C dx [])) (fun v H2 => v = .non ∧ Q (.ref x) H2) E) :
    wpAny (model X.prog X.w) X.A (call (.ref C) us) (EP X pins σ Q) X.xe s := by
  have hq := h (s.heap.objs.size + 1) s.heap.objs.size (I.hok.fresh (Nat.le_succ _)) (I.hok.fresh (Nat.le_refl _)) (Nat.ne_of_lt (Nat.lt_succ_self _))
  have I2 := Inv.made (C := C) I
  have r2 : Vals (V.ref (s.heap.objs.size + 1) :: vs) (Value.ref (s.heap.objs.size + 1) :: us) := .cons rfl r
  have bt := hb _ (Value.ref (s.heap.objs.size + 1) :: us) I2.kIn (by rw [List.append_nil, ← r2.length]; exact F.len _ _ _ _ hq)
  rw [List.append_nil] at bt
  refine wpAny_call (make_map (f := f) I.kIn M.makes M.init (beq_iff_eq.mp M.fn) (codeAny_mono (F.run _ X.stack _ _ ⟨Value.ref (s.heap.objs.size + 1) :: us, []⟩ _ _ _ E (hr.make C us []) (I2.env0.make C us []) bt r2 hq) fun r s' hq' => ?_))
  cases r with
  | error e => exact hx pins _ _ e s' I2 hq'
  | ok fl =>
    cases fl with
    | ret u =>
      obtain ⟨v, H', I3, rv, ev, q3⟩ := I2.after hq'
      subst ev
      exact ⟨rv, V.ref (s.heap.objs.size + 1), H', I3, rfl, q3⟩
    | next => exact False.elim hq'
    | brk => exact False.elim hq'
    | cont => exact False.elim hq'
end
/-- the end of C(..) -/
def makeEnd (fz : Bool) (n : Nat) (d : D) : Mo D := fun st2 => match d with
  | .dat .none => if fz = true then (match st2[n]? with
    | some (.obj c' fs) => .ok (.obj c' fs) (st2.take n)
    | _ => .bad) else .ok (.ref n) st2
  | _ => .bad
/-- C(..); fz: nothing of it will change any more -/
def cMake (c : Str) (fz : Bool) (g : List DC → Mo D) (f : Ev → Mo (List D)) (ρ : Ev) : Mo D := fun st => (f ρ st).bind fun ds st1 => (g (.v (.ref st1.length) :: ds.map .v) (st1 ++ [.obj c []])).bind (makeEnd fz st1.length)
theorem make_imp {G : Gz} {c : Str} {Ca : Addr} {fz : Bool} {g : List DC → Mo D} {ds : List D} {vs : List V} {as1 : As} {st1 : List Cell} {H1 : Hp} {E : XK} {Q : VK} {n : Nat} (hcl : c ∈ G.cl) (hmg : G.mg c = some (.ref Ca)) (hn : ds.length = n) (rs1 : Rs G as1 st1 H1) (ra : RVs G H1 as1 ds vs)
    (hp : Post G (RV G) H1 as1 E Q ((g (.v (.ref st1.length) :: ds.map .v) (st1 ++ [.obj c []])).bind (makeEnd fz st1.length))) (x dx : Addr) (hx : H1 x = none) (hdx : H1 dx = none) (ne : dx ≠ x) :
    spOf G (n + 1) g (.ref x :: vs) (upd (upd H1 dx (.own x)) x (.ins Ca dx [])) (fun v H2 => v = .non ∧ Q (.ref x) H2) E := by
  have hx1 : upd H1 dx (.own x) x = none := by rw [upd_ne ne.symm]; exact hx
  have g1 := Gr.new (o := .own x) rs1 hdx
  have rsA := rs1.new (o := .own x) hdx
  have g2 := Gr.add (o := .ins Ca dx []) rsA hx1
  have rsB := rsA.add (o := .ins Ca dx []) (c := .obj c []) hx1 ⟨Ca, dx, [], hcl, hmg, upd_same, rfl, rfl, .nil⟩
  have gA := g1.trans g2
  have ex : (as1.add x).m[st1.length]? = some x := by show (as1.m ++ [x])[st1.length]? = _; rw [← rs1.len]; simp
  refine ⟨.v (.ref st1.length) :: ds.map .v, as1.add x, st1 ++ [.obj c []], by rw [List.length_cons, List.length_map, hn], .cons (.ref ex) (RCs.of (RVs.gr gA ra)), rsB, ?_⟩
  generalize g (.v (.ref st1.length) :: ds.map .v) (st1 ++ [.obj c []]) = o at hp
  cases o with
  | bad => exact hp.elim
  | exc e st2 => exact fun as2 cls dd H2 gg rs2 q => hp as2 cls dd H2 (gA.trans gg) rs2 q
  | ok d st2 =>
    intro as2 v H2 gg rs2 rdv
    have hp : Post G (RV G) H1 as1 E Q (makeEnd fz st1.length d st2) := hp
    unfold makeEnd at hp
    split at hp
    · cases rdv with
      | dat rdw =>
      cases rdw
      refine ⟨rfl, ?_⟩
      have ea := gg.get ex
      cases fz with
      | false =>
        rw [if_neg Bool.false_ne_true] at hp
        exact hp as2 (.ref x) H2 (gA.trans gg) rs2 (.ref ea)
      | true =>
        rw [if_pos rfl] at hp
        cases ec : st2[st1.length]? with
        | none => rw [ec] at hp; exact hp.elim
        | some cc =>
          rw [ec] at hp
          cases cc with
          | lst l => exact hp.elim
          | dic f l => exact hp.elim
          | obj c' fs =>
            obtain ⟨Cb, dx', vfs, h0, h1, h2, h3, h4, h5⟩ := rs2.cell _ _ _ ea ec
            obtain ⟨rs3, g3, _⟩ := rs1.cut rs2 (gA.trans gg)
            have bd : ∀ b, as1.bad b → as2.bad b := fun b z => (gA.trans gg).bad b z
            exact hp as1 (.ref x) H2 g3 rs3 (.obj h0 h1 h2 (rs1.fresh hx) h3 (RVs.less0 bd h5 (by rw [← lowF_eq]; exact h4)))
    · exact hp.elim
section
variable {G : Gz} {X : Cx} {W : WX} {k j n : Nat} {pos p : Pos} {fi Ca : Addr} {fd : FuncData} {ps : List Str} {x : Str} {e : Expr} {es : List Expr} {g : List DC → Mo D} {f : Ev → Mo (List D)} {fz : Bool}
theorem se_make (C : Cz G X W k) (hB : X.base = G.base) (M : Mk X.K Ca fi) (F : FnOk X.prog X.w X.K X.mg X.base (L2.CX X.prog X.w) j fi fd ps (spOf G (n + 1) g)) (hj : j + 1 ≤ k) (hg : Gl X x) (hcl : x ∈ G.cl) (hm : X.mg x = some (.ref Ca)) (hb : Binds X.K fd ps [])
    (hl : ∀ ρ st ds st', f ρ st = .ok ds st' → ds.length = n) (ha : PA X (e :: es) (tA G W f)) (hdb : (x == ("__debug__" : Str)) = false := by decide) (he : starEach (e :: es) X.env = (false, eval e X.env) :: starEach es X.env := by rfl) (hpl : (backTo pos (starEach es X.env)).any (·.1) = false := by rfl) :
    PE X (.Call (.Name x p) (e :: es) [] pos) (tE G W (cMake x fz g f)) := by
  refine ⟨fun pins s σ H Q I ⟨ρ, as, st, re, rs, hp⟩ => ?_⟩
  refine wpAny_Call_Name_kw (ld_glob I hg hm ?_ hdb)
  refine PySem.W.callWith_K (h₀ := X.base) I.ok.mod.kin M.kp (thn (ha.run pos pins s σ H _ I ⟨ρ, as, st, re, rs, Post.bind hp⟩) fun us s1 ⟨vs, H1, I1, r, ds, as1, st1, e1, g1, rs1, ra, hp1⟩ => ⟨I1.kIn, ?_⟩) he hpl
  exact run_makeS (E := WE W σ) M F (C.room.mono hj) hb (passAt C.tk σ) I1 r fun y dx hy hdx ne => make_imp hcl (by rw [← C.fit.mg]; exact hm) (hl _ _ _ _ e1) rs1 ra hp1 y dx hy hdx ne
theorem se_make0 (C : Cz G X W k) (hB : X.base = G.base) (M : Mk X.K Ca fi) (F : FnOk X.prog X.w X.K X.mg X.base (L2.CX X.prog X.w) j fi fd ps (spOf G 1 g)) (hj : j + 1 ≤ k) (hg : Gl X x) (hcl : x ∈ G.cl) (hm : X.mg x = some (.ref Ca)) (hb : Binds X.K fd ps [])
    (hdb : (x == ("__debug__" : Str)) = false := by decide) : PE X (.Call (.Name x p) [] [] pos) (tE G W (cMake x fz g cNil)) := by
  refine ⟨fun pins s σ H Q I ⟨ρ, as, st, re, rs, hp⟩ => ?_⟩
  refine wpAny_Call_Name_kw (ld_glob I hg hm ?_ hdb)
  exact PySem.W.callWith_K0 I.kIn M.kp (run_makeS (us := []) (E := WE W σ) M F (C.room.mono hj) hb (passAt C.tk σ) I .nil fun y dx hy hdx ne => make_imp (ds := []) hcl (by rw [← C.fit.mg]; exact hm) rfl rs .nil hp y dx hy hdx ne)
end
end Zp

set_option Elab.async false
set_option linter.all false
set_option autoImplicit false
set_option maxRecDepth 100000
set_option maxHeartbeats 4000000
namespace Zp
open PySem PySem.Spec PyProof.Rows L2
/-! ### == and != of instances by an own __eq__ -/
structure OwnE (K : PySem.W.Frag) (C fe : Addr) : Prop where
  cl : L2.Cls K C
  eq : PySem.W.findIn K (.ref C) "__eq__" = some (some (.ref fe))
  fn : PySem.W.isFn K (.ref fe) = true
  ne : PySem.W.findIn K (.ref C) "__ne__" = some (some (.builtin "object.__ne__"))
  mo : PySem.W.mroIn K C (.type "object") = some true
section
open PySem.W
variable {prog : Program} {w : World} {A : Around} {E : Value → Shared → Prop} {s : Shared} {K : Frag} {x y C fe : Addr} {ox : Obj} {od : Option Obj} {Q : Value → Shared → Prop}
theorem ne_body {P : PySem.Fin → Shared → Prop} (hu : A.units < cLine) (X : K.In s.heap) (I : InstAt s.heap x ox C od) (o : OwnE K C fe)
    (h : wpAny (model prog w) A (call (.ref fe) [.ref x, .ref y]) (fun v s' => ∃ k, v = .bool k ∧ P (.done (.ret (.bool (!k)))) s') E s) : wpAny (model prog w) A (Builtin.«object.__ne__» ⟨[.ref x, .ref y], []⟩) P E s := by
  unfold Builtin.«object.__ne__»
  refine wpAny_bind (wpAny_of_eq (a := (Value.ref x, [Value.ref y])) (by rfl) ?_)
  refine wpAny_bind (wpAny_cRoomFor hu ?_)
  refine wpAny_bind (ifBound_K X I o.eq o.fn (wpAny_mono h (fun v s' hv => ?_) fun _ _ e => e))
  obtain ⟨k, rfl, hq⟩ := hv
  exact wpAny_bind (wpAny_truthy_bool (wpAny_pure hq))
theorem cmpNe_K (hu : A.units + 1 < cLine) (X : K.In s.heap) (I : InstAt s.heap x ox C od) (hb : Looks (model prog w) s.heap (typeOf (.ref y)) (.ref C)) (o : OwnE K C fe)
    (h : wpAny (model prog w) A.in1 (call (.ref fe) [.ref x, .ref y]) (fun v s' => ∃ k, v = .bool k ∧ Q (.bool (!k)) s') E s) : wpAny (model prog w) A (richCompare .NotEq (.ref x) (.ref y)) Q E s := by
  have sub : Looks (model prog w) s.heap (isInstance (.ref x) (.type "object")) true := I.type.andThen (looks_mroIn X o.mo)
  have one : wpAny (model prog w) A (tryCompare (.ref x) "__ne__" (.ref y)) (fun r s' => ∃ v, r = some v ∧ Q v s') E s := by
    unfold tryCompare
    simp only [callSpecialIfBound?, bindSpecialIfBound?]
    refine wpAny_bind (wpAny_holding (wpAny_bind (wpAny_bind (wpAny_bind (I.type.here ((looks_findIn X o.ne).here ?_))))))
    simp only [PySem.F.cmp_object.ne.bind]
    refine wpAny_bind (wpAny_askSetting (wpAny_ite ?_))
    have run : wpAny (model prog w) A (call (.builtin "object.__ne__") [.ref x, .ref y]) (fun v s' => ∃ k, v = .bool (!k) ∧ Q (.bool (!k)) s') E s := by
      refine wpAny_call (codeAny_call_builtin PySem.F.cmp_object.ne.plain PySem.F.cmpEntry_ne (check_slot PySem.F.cmpKind_ne PySem.F.cmpSplit_ne sub (PySem.F.cmpArgs_ne _ _) (ne_body hu X I o (wpAny_mono h (fun v s' hv => ?_) fun _ _ e => e))))
      obtain ⟨k, rfl, hq⟩ := hv
      exact ⟨k, rfl, k, rfl, hq⟩
    have fin : ∀ {R : Option Value → Shared → Prop}, (∀ k s', Q (.bool (!k)) s' → R (some (.bool (!k))) s') → wpAny (model prog w) A (call (.builtin "object.__ne__") ([.ref x] ++ [.ref y]) >>= fun v => pure (some v)) R E s := fun hR => wpAny_bind (wpAny_mono run (fun v s' hv => by
      obtain ⟨k, rfl, hq⟩ := hv
      exact wpAny_pure (hR k s' hq)) fun _ _ e => e)
    split
    · exact wpAny_bind (wpAny_pure (wpAny_pure (by exact fin fun k s' hq => wpAny_pure ⟨_, rfl, hq⟩)))
    · exact wpAny_tryCatch (wpAny_bind (wpAny_pure (wpAny_pure (by exact fin fun k s' hq => wpAny_pure ⟨_, rfl, hq⟩))))
  unfold richCompare
  simp only [oneThing_ref]
  refine wpAny_holding (wpAny_bind (wpAny_cRoomFor (Nat.lt_of_succ_lt hu) ?_))
  rw [cmpInfo_NotEq]
  dsimp only
  refine wpAny_bind (I.type.here (wpAny_bind (hb.here ?_)))
  rw [show (Value.ref C != Value.ref C) = false from by simp]
  simp only [Bool.false_eq_true, if_false]
  refine wpAny_bind (wpAny_pure ?_)
  simp only [Bool.false_eq_true, if_false]
  refine wpAny_bind (wpAny_mono one (fun r s' z => ?_) fun _ _ e => e)
  obtain ⟨v, rfl, hq⟩ := z
  exact wpAny_pure hq
end
def rEqO (X : Cx) (neg : Bool) : R2 := fun x y H Q => ∃ a b C dx dy vs ws fe j fd ps sp, x = .ref a ∧ y = .ref b ∧ H a = some (.ins C dx vs) ∧ H b = some (.ins C dy ws) ∧ OwnE X.K C fe ∧ FnOk X.prog X.w X.K X.mg X.base (L2.CX X.prog X.w) j fe fd ps sp ∧ Binds X.K fd ps [] ∧ Room (j + 1) X.A ∧
  sp [.ref a, .ref b] H (fun z H' => ∃ k, z = .bl k ∧ Q (.bl (if neg then !k else k)) H') (fun _ _ _ => False)
theorem op_eqO {X : Cx} (neg : Bool) : OpR X (compareOp (if neg then .NotEq else .Eq)) (rEqO X neg) := by
  intro pins s σ H x y u v Q I rx ry h
  obtain ⟨a, b, C, dx, dy, vs, ws, fe, j, fd, ps, sp, rfl, rfl, ha, hb, o, Fn, bd, rm, q⟩ := h
  obtain rfl : u = Value.ref a := rx
  obtain rfl : v = Value.ref b := ry
  obtain ⟨mA, O, _, _, _, _⟩ := ins_get I.hok ha
  obtain ⟨od, J, _⟩ := O.look
  obtain ⟨mB, O2, _, _, _, _⟩ := ins_get I.hok hb
  obtain ⟨od2, J2, _⟩ := O2.look
  have hl : ([Value.ref a, Value.ref b] ++ ([] : List Value)).length = ps.length := by
    have := Fn.len _ _ _ _ q
    rw [← this]; rfl
  have bt := bd s [.ref a, .ref b] I.kIn hl
  rw [List.append_nil] at bt
  have va : Vals [V.ref a, V.ref b] [Value.ref a, Value.ref b] := .cons rfl (.cons rfl .nil)
  have out : ∀ (r : Result) (s' : Shared), CR (L2.CX X.prog X.w) X.stack X.prog X.w H s (fun z H' => ∃ k, z = .bl k ∧ Q (.bl (if neg then !k else k)) H') (fun _ _ _ => False) r s' → ∃ k, r = .ok (.ret (.bool k)) ∧ EP X pins σ Q (.bool (if neg then !k else k)) s' := fun r s' hq => by
    cases r with
    | error e => obtain ⟨_, _, _, _, _, _, _, _, _, _, _, _, z⟩ := hq; exact z.elim
    | ok fl =>
      cases fl with
      | ret u =>
        obtain ⟨z, H', I', rz, k, rfl, qz⟩ := I.after hq
        obtain rfl : u = Value.bool k := rz
        exact ⟨k, rfl, .bl (if neg then !k else k), H', I', rfl, qz⟩
      | next => exact False.elim hq
      | brk => exact False.elim hq
      | cont => exact False.elim hq
  cases neg with
  | false =>
    show wpAny _ _ (richCompare .Eq (.ref a) (.ref b)) _ _ _
    obtain ⟨m, hF⟩ := I.fr
    refine PySem.W.cmp_K (op := .Eq) (tb := .ref C) rm.units0 hF I.ok.mod.kin J J2.type (by unfold PySem.W.notFirst; simp) o.eq o.fn ?_
    refine wpAny_call (codeAny_mono (Fn.run X.A X.stack s H ⟨[.ref a, .ref b], []⟩ _ _ _ (fun _ _ _ => False) (rm.mono (Nat.le_succ _)) I.env0 bt va q) fun r s' hq => ?_)
    obtain ⟨k, rfl, z⟩ := out r s' hq
    exact z
  | true =>
    show wpAny _ _ (richCompare .NotEq (.ref a) (.ref b)) _ _ _
    refine cmpNe_K (by have := rm.units; omega) I.kIn J J2.type o ?_
    refine wpAny_call (codeAny_mono (Fn.run X.A.in1 X.stack s H ⟨[.ref a, .ref b], []⟩ _ _ _ (fun _ _ _ => False) rm.in1 I.env0.in1 bt va q) fun r s' hq => ?_)
    obtain ⟨k, rfl, z⟩ := out r s' hq
    exact ⟨k, rfl, z⟩
def eqEnd (neg : Bool) (r : D) : Mo D := fun st1 => match r with
  | .dat (.bool k) => .ok (.dat (.bool (if neg then !k else k))) st1
  | _ => .bad
/-- == of instances; tb: the own __eq__ by class -/
def eqOb (tb : List (Str × (List DC → Mo D))) (neg : Bool) : D → D → Mo D := fun a b st => match objOf a st, objOf b st with
  | some (c, _), some (c', _) => if c = c' then (match tb.lookup c with
    | some g => (nx (g [.v a, .v b] st)).bind (eqEnd neg)
    | none => .bad) else .bad
  | _, _ => .bad
def EqF (G : Gz) (j : Nat) (c : Str) (g : List DC → Mo D) : Prop := ∀ C, G.mg c = some (.ref C) → ∃ fe fd ps, OwnE G.K C fe ∧ FnOk G.P G.w G.K G.mg G.base (L2.CX G.P G.w) j fe fd ps (spOf G 2 g) ∧ Binds G.K fd ps []
theorem eqOb_op {G : Gz} {X : Cx} {W : WX} {k j : Nat} {tb : List (Str × (List DC → Mo D))} {neg : Bool} (C : Cz G X W k) (hB : X.base = G.base) (hj : j + 1 ≤ k) (hc : ∀ c g, (c, g) ∈ tb → EqF G j c g) : Op2 G.toGx (rEqO X neg) (eqOb tb neg) := by
  intro H as st x y a b E Q rs ra rb hp
  unfold eqOb at hp
  cases e1 : objOf a st with
  | none => rw [e1] at hp; exact hp.elim
  | some p =>
    obtain ⟨c, fs⟩ := p
    cases e2 : objOf b st with
    | none => rw [e1, e2] at hp; exact hp.elim
    | some p2 =>
      obtain ⟨c', fs'⟩ := p2
      rw [e1, e2] at hp
      replace hp : Post G (RV G) H as E Q (if c = c' then (match tb.lookup c with
        | some g => (nx (g [.v a, .v b] st)).bind (eqEnd neg)
        | none => .bad) else .bad) := hp
      by_cases hcc : c = c'
      · rw [if_pos hcc] at hp
        subst hcc
        cases el : tb.lookup c with
        | none => rw [el] at hp; exact hp.elim
        | some g =>
          rw [el] at hp
          replace hp : Post G (RV G) H as E Q ((nx (g [.v a, .v b] st)).bind (eqEnd neg)) := hp
          obtain ⟨p, C1, dx, vfs, rfl, _, h1, h2, _, _⟩ := objOf_ok rs ra e1
          obtain ⟨p', C2, dy, vfs', rfl, _, h1', h2', _, _⟩ := objOf_ok rs rb e2
          rw [h1] at h1'; cases h1'
          obtain ⟨fe, fd, ps, o, Fn, bd⟩ := hc c g (lookup_of el) C1 h1
          have F := C.fit
          rw [← F.P, ← F.w, ← F.K, ← F.mg, ← hB] at Fn
          rw [← F.K] at o bd
          refine ⟨p, p', C1, dx, dy, vfs, vfs', fe, j, fd, ps, _, rfl, rfl, h2, h2', o, Fn, bd, C.room.mono hj, [.v a, .v b], as, st, rfl, .cons ra (.cons rb .nil), rs, ?_⟩
          cases eg : g [.v a, .v b] st with
          | exc z st2 => rw [eg] at hp; exact hp.elim
          | bad => rw [eg] at hp; exact hp.elim
          | ok r st2 =>
            rw [eg] at hp
            intro as2 v H2 g2 rs2 rr
            replace hp : Post G (RV G) H as E Q (eqEnd neg r st2) := hp
            unfold eqEnd at hp
            split at hp
            · rename_i k
              cases rr with
              | dat rr =>
              cases rr
              exact ⟨k, rfl, hp as2 _ H2 g2 rs2 (.dat (.bl _))⟩
            · exact hp.elim
      · rw [if_neg hcc] at hp; exact hp.elim
end Zp
namespace Zp
open PySem PySem.Spec PyProof.Rows L2
def negOp (neg : Bool) : CmpOp := if neg then .NotEq else .Eq
def eqT (tb : List (Str × (List DC → Mo D))) (neg : Bool) : D → D → Mo D := fun a b st => match objOf a st with
  | some _ => eqOb tb neg a b st
  | none => liftD (fun a b => (cmpD (negOp neg) a b).map .bool) a b st
def cEqT (tb : List (Str × (List DC → Mo D))) (neg : Bool) (f g : Ev → Mo D) : Ev → Mo D := cOp2 (eqT tb neg) f g
section
variable {G : Gz} {X : Cx} {W : WX} {k j : Nat} {tb : List (Str × (List DC → Mo D))} {a b : Expr} {f g : Ev → Mo D} {pos : Pos}
theorem eqT_op {neg : Bool} (C : Cz G X W k) (hB : X.base = G.base) (hj : j + 1 ≤ k) (hc : ∀ c g, (c, g) ∈ tb → EqF G j c g) : Op2 G.toGx (fun x y H Q => rCmp X.K (negOp neg) x y H Q ∨ rEqO X neg x y H Q) (eqT tb neg) := by
  intro H as st x y a b E Q rs ra rb hp
  unfold eqT at hp
  cases e : objOf a st with
  | none =>
    rw [e] at hp
    have z := cmp_op (G := G.toGx) (negOp neg) H as st x y a b E Q rs ra rb hp
    rw [← C.fit.K] at z
    exact .inl z
  | some p => rw [e] at hp; exact .inr (eqOb_op C hB hj hc H as st x y a b E Q rs ra rb hp)
theorem se_eqT (C : Cz G X W k) (hB : X.base = G.base) (hj : j + 1 ≤ k) (hc : ∀ c g, (c, g) ∈ tb → EqF G j c g) (ha : PE X a (tE G W f)) (hb : PE X b (tE G W g)) (hm : behindInMarks .Eq b = false := by rfl) : PE X (.Compare a [.Eq] [b] pos) (tE G W (cEqT tb false f g)) :=
  se_cmp ((op_cmpA C.hu .Eq).or (op_eqO false)) (eqT_op (neg := false) C hB hj hc) ha hb hm
theorem se_neT (C : Cz G X W k) (hB : X.base = G.base) (hj : j + 1 ≤ k) (hc : ∀ c g, (c, g) ∈ tb → EqF G j c g) (ha : PE X a (tE G W f)) (hb : PE X b (tE G W g)) (hm : behindInMarks .NotEq b = false := by rfl) : PE X (.Compare a [.NotEq] [b] pos) (tE G W (cEqT tb true f g)) :=
  se_cmp ((op_cmpA C.hu .NotEq).or (op_eqO true)) (eqT_op (neg := true) C hB hj hc) ha hb hm
end
end Zp

set_option Elab.async false
set_option linter.all false
set_option autoImplicit false
set_option maxRecDepth 100000
set_option maxHeartbeats 4000000
namespace Zp
open PySem PySem.Spec PyProof.Rows L2
/-! ### calls with keywords -/
/-- the written values in the parameters' order -/
def permL {α : Type} (perm : List Nat) (l : List α) : List α := perm.filterMap fun i => l[i]?
theorem perm_vals {xs : List V} {us : List Value} (h : Vals xs us) : ∀ perm : List Nat, Vals (permL perm xs) (permL perm us)
  | [] => .nil
  | i :: perm => by
    have ih := perm_vals h perm
    unfold permL at ih ⊢
    rw [List.filterMap_cons, List.filterMap_cons]
    cases e : xs[i]? with
    | none => rw [h.none_of e]; exact ih
    | some x =>
      obtain ⟨u, hu, r⟩ := h.get e
      rw [hu]
      exact .cons r ih
theorem perm_rvs {G : Gx} {H : Hp} {as : As} {ds : List D} {vs : List V} (h : RVs G H as ds vs) : ∀ perm : List Nat, RVs G H as (permL perm ds) (permL perm vs)
  | [] => .nil
  | i :: perm => by
    have ih := perm_rvs h perm
    unfold permL at ih ⊢
    rw [List.filterMap_cons, List.filterMap_cons]
    cases e : ds[i]? with
    | none =>
      have l := h.length
      have : vs[i]? = none := List.getElem?_eq_none_iff.mpr (by rw [← l]; exact List.getElem?_eq_none_iff.mp e)
      rw [this]; exact ih
    | some x =>
      obtain ⟨u, hu, r⟩ := h.get e
      rw [hu]
      exact .cons r ih
structure KwB (K : PySem.W.Frag) (fd : FuncData) (ps ks : List Str) (n1 n2 : Nat) (perm : List Nat) : Prop where
  to : ∀ (s : Shared) (us ws : List Value), K.In s.heap → us.length = n1 → ws.length = n2 → BindsTo s fd ⟨us, ks.zip ws⟩ (ps.zip (permL perm (us ++ ws)))
def cCallK (g : List DC → Mo D) (n : Nat) (perm : List Nat) (f fk : Ev → Mo (List D)) (ρ : Ev) : Mo D := fun st => (f ρ st).bind fun ds st1 => (fk ρ st1).bind fun es st2 => if (permL perm (ds ++ es)).length = n then g ((permL perm (ds ++ es)).map .v) st2 else .bad
theorem dlen_nil : ∀ (ρ : Ev) (st : List Cell) (ds : List D) (st' : List Cell), cNil ρ st = .ok ds st' → ds.length = 0 := fun ρ st ds st' e => by cases e; rfl
theorem dlen_cons {fx : Ev → Mo D} {rx : Ev → Mo (List D)} {n : Nat} (h : ∀ ρ st ds st', rx ρ st = .ok ds st' → ds.length = n) : ∀ ρ st ds st', cCons fx rx ρ st = .ok ds st' → ds.length = n + 1 := fun ρ st ds st' e => by
  unfold cCons at e
  cases e1 : fx ρ st with
  | ok d st1 =>
    rw [e1] at e
    have e : (rx ρ st1).bind (fun ds st2 => .ok (d :: ds) st2) = .ok ds st' := e
    cases e2 : rx ρ st1 with
    | ok ds1 st2 => rw [e2] at e; cases e; rw [List.length_cons, h _ _ _ _ e2]
    | exc x s => rw [e2] at e; cases e
    | bad => rw [e2] at e; cases e
  | exc x s => rw [e1] at e; cases e
  | bad => rw [e1] at e; cases e
section
variable {G G' : Gz} {X : Cx} {W : WX} {k j n n1 n2 : Nat} {pos p : Pos} {fa : Addr} {fd : FuncData} {ps ks : List Str} {perm : List Nat} {x : Str} {e : Expr} {es : List Expr} {kws : List Keyword} {g : List DC → Mo D} {f fk : Ev → Mo (List D)}
theorem kw_run {pins : List (Addr × Obj)} {σ : L2.St} {H2 : Hp} {s : Shared} {Q : VK} {us ws : List Value} {vs zs : List V} {ds es : List D} {as2 : As} {st2 : List Cell} (C : Cz G X W k) (hs : Same G G') (F : FnOk X.prog X.w X.K X.mg X.base (L2.CX X.prog X.w) j fa fd ps (spOf G' n g)) (hj : j ≤ k) (hb : KwB X.K fd ps ks n1 n2 perm)
    (I : L2.Inv X pins σ H2 s) (r : Vals vs us) (rz : Vals zs ws) (rs2 : Rs G as2 st2 H2) (ra : RVs G H2 as2 ds vs) (rb : RVs G H2 as2 es zs) (l1 : ds.length = n1) (l2 : es.length = n2)
    (hp : Post G (RV G) H2 as2 (fun c d H' => W c d σ H') Q (if (permL perm (ds ++ es)).length = n then g ((permL perm (ds ++ es)).map .v) st2 else .bad)) :
    wpAny (model X.prog X.w) X.A (call (.ref fa) us (ks.zip ws)) (EP X pins σ Q) X.xe s := by
  by_cases hn : (permL perm (ds ++ es)).length = n
  · rw [if_pos hn] at hp
    have bt := hb.to s us ws I.kIn (by rw [← r.length, ← ra.length]; exact l1) (by rw [← rz.length, ← rb.length]; exact l2)
    refine wpAny_call (codeAny_mono (F.run X.A X.stack s H2 ⟨us, ks.zip ws⟩ (permL perm (us ++ ws)) (permL perm (vs ++ zs)) Q (WE W σ) (C.room.mono hj) I.env0 bt (perm_vals (r.append rz) perm)
      ⟨(permL perm (ds ++ es)).map .v, as2, st2, by rw [List.length_map]; exact hn, RCs.of (by rw [hs.e]; exact perm_rvs (ra.append rb) perm), by rw [hs.e]; exact rs2, by rw [hs.e]; exact hp⟩) fun r s' hq => ?_)
    cases r with
    | error e => exact passAt C.tk σ pins H2 s e s' I hq
    | ok fl =>
      cases fl with
      | ret u => exact I.after hq
      | next => exact False.elim hq
      | brk => exact False.elim hq
      | cont => exact False.elim hq
  · rw [if_neg hn] at hp; exact hp.elim
theorem se_callK (C : Cz G X W k) (hs : Same G G') (F : FnOk X.prog X.w X.K X.mg X.base (L2.CX X.prog X.w) j fa fd ps (spOf G' n g)) (hj : j ≤ k) (hg : Gl X x) (hm : X.mg x = some (.ref fa)) (hk : PySem.W.keepIn X.K (.ref fa) = true) (hb : KwB X.K fd ps ks n1 n2 perm)
    (hl : ∀ ρ st ds st', f ρ st = .ok ds st' → ds.length = n1) (hl2 : ∀ ρ st ds st', fk ρ st = .ok ds st' → ds.length = n2) (ha : PA X (e :: es) (tA G W f)) (hkw : PK X kws (tA G W fk))
    (hall : (backToKw pos (keywordEach kws X.env)).all (·.1.isSome) = true := by rfl) (hks : (backToKw pos (keywordEach kws X.env)).filterMap (·.1) = ks := by rfl) (hdb : (x == ("__debug__" : Str)) = false := by decide) (he : starEach (e :: es) X.env = (false, eval e X.env) :: starEach es X.env := by rfl)
    (hpl : ((backTo pos (starEach (e :: es) X.env)).any (·.1) || (backToKw pos (keywordEach kws X.env)).any (·.1.isNone)) = false := by rfl) :
    PE X (.Call (.Name x p) (e :: es) kws pos) (tE G W (cCallK g n perm f fk)) := by
  refine ⟨fun pins s σ H Q I ⟨ρ, as, st, re, rs, hp⟩ => ?_⟩
  refine wpAny_Call_Name_kw (ld_glob I hg hm ?_ hdb)
  refine PySem.W.callWith_KW (h₀ := X.base) I.ok.mod.kin hk hall (thn (ha.run pos pins s σ H _ I ⟨ρ, as, st, re, rs, Post.bind hp⟩) fun us s1 ⟨vs, H1, I1, r, ds, as1, st1, e1, g1, rs1, ra, hp1⟩ => ?_) hpl he
  refine thn (hkw.run pos pins s1 σ H1 _ I1 ⟨ρ, as1, st1, re.gr g1, rs1, Post.bind hp1⟩) fun ws s2 ⟨zs, H2, I2, rz, es', as2, st2, e2, g2, rs2, rb, hp2⟩ => ⟨I2.kIn, ?_⟩
  rw [hks]
  exact kw_run C hs F hj hb I2 r rz rs2 (RVs.gr g2 ra) rb (hl _ _ _ _ e1) (hl2 _ _ _ _ e2) hp2
theorem se_callK0 (C : Cz G X W k) (hs : Same G G') (F : FnOk X.prog X.w X.K X.mg X.base (L2.CX X.prog X.w) j fa fd ps (spOf G' n g)) (hj : j ≤ k) (hg : Gl X x) (hm : X.mg x = some (.ref fa)) (hk : PySem.W.keepIn X.K (.ref fa) = true) (hb : KwB X.K fd ps ks 0 n2 perm)
    (hl2 : ∀ ρ st ds st', fk ρ st = .ok ds st' → ds.length = n2) (hkw : PK X kws (tA G W fk))
    (hall : (backToKw pos (keywordEach kws X.env)).all (·.1.isSome) = true := by rfl) (hks : (backToKw pos (keywordEach kws X.env)).filterMap (·.1) = ks := by rfl) (hdb : (x == ("__debug__" : Str)) = false := by decide)
    (hpl : ((backTo pos (starEach [] X.env)).any (·.1) || (backToKw pos (keywordEach kws X.env)).any (·.1.isNone)) = false := by rfl) :
    PE X (.Call (.Name x p) [] kws pos) (tE G W (cCallK g n perm cNil fk)) := by
  refine ⟨fun pins s σ H Q I ⟨ρ, as, st, re, rs, hp⟩ => ?_⟩
  refine wpAny_Call_Name_kw (ld_glob I hg hm ?_ hdb)
  refine PySem.W.callWith_KW0 (h₀ := X.base) I.ok.mod.kin hk hall ?_ hpl
  have hp1 : Post G (RV G) H as (fun c d H' => W c d σ H') Q ((fk ρ st).bind fun es st2 => if (permL perm ([] ++ es)).length = n then g ((permL perm ([] ++ es)).map .v) st2 else .bad) := hp
  refine thn (hkw.run pos pins s σ H _ I ⟨ρ, as, st, re, rs, Post.bind hp1⟩) fun ws s2 ⟨zs, H2, I2, rz, es', as2, st2, e2, g2, rs2, rb, hp2⟩ => ⟨I2.kIn, ?_⟩
  rw [hks]
  exact kw_run (us := []) (vs := []) (ds := []) C hs F hj hb I2 .nil rz rs2 .nil rb rfl (hl2 _ _ _ _ e2) hp2
/-- f() -/
theorem se_call0 (C : Cz G X W k) (hs : Same G G') (F : FnOk X.prog X.w X.K X.mg X.base (L2.CX X.prog X.w) j fa fd ps (spOf G' 0 g)) (hj : j ≤ k) (hg : Gl X x) (hm : X.mg x = some (.ref fa)) (hk : PySem.W.keepIn X.K (.ref fa) = true) (hb : Binds X.K fd ps [])
    (hdb : (x == ("__debug__" : Str)) = false := by decide) : PE X (.Call (.Name x p) [] [] pos) (tE G W (cCall g aNil)) := by
  refine ⟨fun pins s σ H Q I ⟨ρ, as, st, re, rs, hp⟩ => ?_⟩
  refine wpAny_Call_Name_kw (ld_glob I hg hm ?_ hdb)
  refine PySem.W.callWith_K0 I.kIn hk ?_
  have sp : spOf G' 0 g [] H Q (WE W σ) := ⟨[], as, st, rfl, .nil, by rw [hs.e]; exact rs, by rw [hs.e]; exact hp⟩
  have bt := hb s [] I.kIn (by rw [← F.len _ _ _ _ sp]; rfl)
  refine wpAny_call (codeAny_mono (F.run X.A X.stack s H ⟨[], []⟩ _ [] Q (WE W σ) (C.room.mono hj) I.env0 bt .nil sp) fun r s' hq => ?_)
  cases r with
  | error e => exact passAt C.tk σ pins H s e s' I hq
  | ok fl =>
    cases fl with
    | ret u => exact I.after hq
    | next => exact False.elim hq
    | brk => exact False.elim hq
    | cont => exact False.elim hq
end
end Zp

set_option Elab.async false
set_option linter.all false
set_option autoImplicit false
set_option maxRecDepth 100000
set_option maxHeartbeats 4000000
namespace Zp
open PySem PySem.Spec PyProof.Rows L2
/-! ### what is walked, by what it is -/
theorem PI.or {X : Cx} {tg e : Expr} {t t' : TI} (h : PI X tg e t) (h' : PI X tg e t') : PI X tg e (fun σ H R => t σ H R ∨ t' σ H R) := ⟨fun pins s σ H R I q => q.elim (h.run pins s σ H R I) (h'.run pins s σ H R I)⟩
def srcOf (d : D) : Mo Src := fun st1 => match d with
  | .dat (.list l) => .ok (.items (l.map .dat)) st1
  | .lst l => .ok (.items l) st1
  | .dat (.tuple l) => .ok (.items (l.map .dat)) st1
  | .tup l => .ok (.items l) st1
  | .dat (.str x) => .ok (.items (strItems x)) st1
  | .ref n => match st1[n]? with
    | some (.lst _) => .ok (.cell n) st1
    | some (.dic _ l) => .ok (.items (l.map fun (p : PyData × PyData) => D.dat p.1)) (st1.set n (.dic true l))
    | _ => .bad
  | _ => .bad
def iAny (f : Ev → Mo D) (ρ : Ev) : Mo Src := fun st => (f ρ st).bind srcOf
section
variable {G : Gz} {X : Cx} {W : WX} {tg e : Expr} {f : Ev → Mo D}
theorem si_any (F : Fits G X) (h : PE X e (tE G W f)) : PI X tg e (tI G W (iAny f)) := by
  refine PI.imp (PI.or (PI.or (si_list F h) (si_tup F h)) (PI.or (si_dic h) (si_str h))) ?_
  intro σ H R ⟨ρ, as, st, re, rs, hp⟩
  unfold iAny at hp
  have l (hq : iSeq f ρ st = (f ρ st).bind srcOf) : tI G W (iSeq f) σ H R := ⟨ρ, as, st, re, rs, by rw [hq]; exact hp⟩
  have t (hq : iTupl f ρ st = (f ρ st).bind srcOf) : tI G W (iTupl f) σ H R := ⟨ρ, as, st, re, rs, by rw [hq]; exact hp⟩
  have d (hq : iDic f ρ st = (f ρ st).bind srcOf) : tI G W (iDic f) σ H R := ⟨ρ, as, st, re, rs, by rw [hq]; exact hp⟩
  have s (hq : iStrD f ρ st = (f ρ st).bind srcOf) : tI G W (iStrD f) σ H R := ⟨ρ, as, st, re, rs, by rw [hq]; exact hp⟩
  cases e : f ρ st with
  | bad => rw [e] at hp; exact hp.elim
  | exc x st1 => exact .inl (.inl (l (by unfold iSeq; rw [e]; rfl)))
  | ok v st1 =>
    cases v with
    | dat x =>
      cases x with
      | list y => exact .inl (.inl (l (by unfold iSeq; rw [e]; rfl)))
      | tuple y => exact .inl (.inr (t (by unfold iTupl; rw [e]; rfl)))
      | str y => exact .inr (.inr (s (by unfold iStrD; rw [e]; rfl)))
      | _ => rw [e] at hp; exact hp.elim
    | lst y => exact .inl (.inl (l (by unfold iSeq; rw [e]; rfl)))
    | tup y => exact .inl (.inr (t (by unfold iTupl; rw [e]; rfl)))
    | obj c fs => rw [e] at hp; exact hp.elim
    | ref n =>
      cases ec : st1[n]? with
      | none =>
        rw [e] at hp
        have hp : Post G (SrcOk G) H as (fun c d H' => W c d σ H') R (match st1[n]? with
          | some (.lst _) => .ok (.cell n) st1
          | some (.dic _ l) => .ok (.items (l.map fun (p : PyData × PyData) => D.dat p.1)) (st1.set n (.dic true l))
          | _ => .bad) := hp
        rw [ec] at hp; exact hp.elim
      | some c =>
        cases c with
        | lst y => exact .inl (.inl (l (by
            unfold iSeq; rw [e]
            show (match st1[n]? with
              | some (.lst _) => Out.ok (Src.cell n) st1
              | _ => .bad) = (match st1[n]? with
              | some (.lst _) => .ok (.cell n) st1
              | some (.dic _ l) => .ok (.items (l.map fun (p : PyData × PyData) => D.dat p.1)) (st1.set n (.dic true l))
              | _ => .bad)
            rw [ec])))
        | dic b y => exact .inr (.inl (d (by
            unfold iDic; rw [e]
            show (match st1[n]? with
              | some (.dic _ l) => Out.ok (Src.items (l.map fun (p : PyData × PyData) => D.dat p.1)) (st1.set n (.dic true l))
              | _ => .bad) = (match st1[n]? with
              | some (.lst _) => .ok (.cell n) st1
              | some (.dic _ l) => .ok (.items (l.map fun (p : PyData × PyData) => D.dat p.1)) (st1.set n (.dic true l))
              | _ => .bad)
            rw [ec])))
        | obj cn fs =>
          rw [e] at hp
          have hp : Post G (SrcOk G) H as (fun c d H' => W c d σ H') R (match st1[n]? with
            | some (.lst _) => .ok (.cell n) st1
            | some (.dic _ l) => .ok (.items (l.map fun (p : PyData × PyData) => D.dat p.1)) (st1.set n (.dic true l))
            | _ => .bad) := hp
          rw [ec] at hp; exact hp.elim
end
end Zp

set_option Elab.async false
set_option linter.all false
set_option autoImplicit false
set_option maxRecDepth 100000
set_option maxHeartbeats 4000000
namespace Zp
open PySem PySem.Spec PyProof.Rows L2
/-! ### a def as the head tells it -/
theorem body_imp {G : Gz} {ds : List DC} {vs : List V} {N : List Str} {n : Nat} {H : Hp} {as : As} {st0 : List Cell} {r : Nat → D → Mo D} {b : Cs} {E : XK} {Q : VK} (hr : RetOk r) (hl : ds.length = n) (hN : n ≤ N.length) (ra : RCs G H as ds vs) (rs : Rs G as st0 H) (hp : Post G (RV G) H as E Q (fnWith r N.length b ds st0)) :
    tS G (fun c d _ H' => E c d H') b { nx := fun _ H' => Q .non H', rt := Q } (L2.start N vs) H := by
  refine ⟨startE N.length ds, as, st0, start_re ra (by rw [hl]; exact hN), rs, ?_⟩
  unfold fnWith at hp
  cases e : b (startE N.length ds) st0 with
  | ok fl st' =>
    rw [e] at hp
    cases fl with
    | rt d => exact fun as' v H' g r' q => hr G as as' st0 st' H H' d v E Q rs r' g q hp
    | nx ρ => exact fun as' σ' H' g r' q => hr G as as' st0 st' H H' (.dat .none) .non E Q rs r' g (.dat .non) hp
    | bk ρ => exact hp.elim
    | ct ρ => exact hp.elim
  | exc x st' =>
    rw [e] at hp
    intro as' cls dd σ' H' g r' q
    obtain ⟨rs1, g1, e1⟩ := rs.cut r' g
    exact hp as cls dd H' g1 rs1 (q.less (cut_less rs g))
  | bad => rw [e] at hp; exact hp.elim
theorem fn_okD {G : Gz} {x qual : Str} {params : Arguments} {body : List Stmt} {scope : Scope} {f : Addr} {fd : FuncData} {N ps : List Str} {k n : Nat} {r : Nat → D → Mo D} {b : Cs} (F : FunD G.K x qual params body scope [] [] f fd) (S : FnScope N ps scope) (hn : n = ps.length) (hN : n ≤ N.length) (hr : RetOk r)
    (hb : ∀ (cdv : Value), fd.code = cdv → ∀ (A : Around) (outer : List Env) (s : Shared) (H : Hp) (E : XK), Cz G (cxOf (L2.CX G.P G.w) G.P G.w G.K G.mg G.base N qual scope f cdv A outer s H E) (fun c d _ H' => E c d H') k →
      PSs (cxOf (L2.CX G.P G.w) G.P G.w G.K G.mg G.base N qual scope f cdv A outer s H E) body (tS G (fun c d _ H' => E c d H') b)) :
    FnOk G.P G.w G.K G.mg G.base (L2.CX G.P G.w) (k + 1) f fd ps (spOf G n (fnWith r N.length b)) := by
  obtain ⟨oc, od, dV, kV, doc, pm, an, cdv, ct, osl, rfl, lk, hcd, _, _⟩ := F.ex
  exact fn_of lk hcd S (spOf_len hn) fun A outer s H vs Q E room ⟨ds, as, st0, hl, ra, rs, hp⟩ =>
    ⟨_, hb cdv rfl A outer s H E ⟨⟨rfl, rfl, rfl, rfl⟩, takes_of rfl rfl rfl rfl, rfl, room, passes_of rfl⟩, body_imp hr hl hN ra rs hp⟩
/-- its code object -/
theorem code_at {K : PySem.W.Frag} {x qual : Str} {params : Arguments} {body : List Stmt} {scope : Scope} {p : He.Defn} {fd : FuncData} {cdv : Value} (F : FunD K x qual params body scope [] [] (He.fAd K p) fd) (e : fd.code = cdv) : cdv = .ref (He.cT K p).1 := by
  obtain ⟨oc, od, dV, kV, doc, pm, an, cd, ct, osl, rfl, lk, hcd, _, _⟩ := F.ex
  obtain ⟨c, rfl⟩ := He.codeIn_ref hcd
  have : cdv = .ref c := e.symm
  rw [this]
  show Value.ref c = .ref (He.codeOf K p)
  rw [He.codeOf_eq lk rfl]
theorem fun_look {K : PySem.W.Frag} {x qual : Str} {params : Arguments} {body : List Stmt} {scope : Scope} {f : Addr} {fd : FuncData} (F : FunD K x qual params body scope [] [] f fd) : ∃ oc od sl, K.lookup f = some ⟨oc, od, .func fd, sl⟩ := by
  obtain ⟨oc, od, dV, kV, doc, pm, an, cd, ct, osl, rfl, lk, _⟩ := F.ex
  exact ⟨oc, od, osl, lk⟩
end Zp

set_option Elab.async false
set_option linter.all false
set_option autoImplicit false
set_option maxRecDepth 100000
set_option maxHeartbeats 4000000
namespace Zp
open PySem PySem.Spec PyProof.Rows L2
/-! ### a law's facts -/
abbrev Exs : Type := List (PySem.W.Frag → Bool)
def allEx (exs : Exs) (K : PySem.W.Frag) : Bool := exs.all fun e => e K
/-- a property's getter -/
structure GetD where
  cls : Str
  fld : Str
  d : He.DefD
def prA (K : PySem.W.Frag) (c x : Str) : Addr := He.ma K (He.ga K c) x
def gtr (K : PySem.W.Frag) (c x : Str) : Addr := match PySem.W.recIn K (prA K c x) "property" with
  | some (.ref g :: _) => g
  | _ => 0
def fnAt (K : PySem.W.Frag) (a : Addr) : He.FnW := match K.lookup a with
  | some ⟨_, _, .func fd, _⟩ => some (fd.name, fd.qualname, fd.params, fd.body, fd.scope, fd.globals, fd.closure, fd.builtins)
  | _ => none
def okAt (K : PySem.W.Frag) (a : Addr) (d : He.DefD) : Bool := PySem.W.keepIn K (.ref a) && (match K.lookup a with
  | some ⟨_, _, .func fd, _⟩ => PySem.W.codeIn K fd.code d.qual && (He.dflB K fd.defaults [] && He.kwdB K fd.kwdefaults [])
  | _ => false)
def prB (K : PySem.W.Frag) (c x : Str) : Bool := He.eqO (PySem.W.findIn K (.ref (He.ga K c)) x) (some (some (.ref (prA K c x)))) && (He.eqO (PySem.W.specialIn K (.ref (prA K c x)) "__get__") (some (some (.builtin "property.__get__"))) &&
  (decide (PySem.W.takesIn K (.ref (prA K c x)) = some true) && (match PySem.W.recIn K (prA K c x) "property" with
    | some (.ref _ :: _) => true
    | _ => false)))
theorem prB_ok {K : PySem.W.Frag} {c x : Str} (h : prB K c x = true) : L2.PropOf K (He.ga K c) x (prA K c x) (gtr K c x) := by
  unfold prB at h
  simp only [Bool.and_eq_true] at h
  obtain ⟨h1, h2, h3, h4⟩ := h
  refine ⟨He.eqO_ok h1, He.eqO_ok h2, of_decide_eq_true h3, ?_⟩
  unfold gtr
  cases e : PySem.W.recIn K (prA K c x) "property" with
  | none => rw [e] at h4; cases h4
  | some l =>
    cases l with
    | nil => rw [e] at h4; cases h4
    | cons v r =>
      cases v with
      | ref g => exact ⟨r, rfl⟩
      | _ => rw [e] at h4; cases h4
theorem funD_at {K : PySem.W.Frag} {a : Addr} {d : He.DefD} (e : fnAt K a = d.val) (c : okAt K a d = true) : ∃ fd, FunD K d.name d.qual d.params d.body d.scope [] [] a fd := by
  obtain ⟨kp, c2⟩ := He.ba c
  unfold fnAt at e
  cases q : K.lookup a with
  | none =>
    rw [q] at c2
    cases c2
  | some o =>
    obtain ⟨oc, od, dt, osl⟩ := o
    rw [q] at c2 e
    cases dt with
    | func fd =>
      obtain ⟨n1, n2, n3, n4, n5, n6, n7, n8, n9, n10, n11, n12, n13, n14, n15⟩ := fd
      have e2 : (some (n1, n2, n3, n4, n5, n6, n7, n15) : He.FnW) = some (d.name, d.qual, d.params, .stmts d.body, d.scope, mainGlobals, [], builtinsNs) := e
      simp only [Option.some.injEq, Prod.mk.injEq] at e2
      obtain ⟨h1, h2, h3, h4, h5, h6, h7, h8⟩ := e2
      subst h1 h2 h3 h4 h5 h6 h7 h8
      have c3 : (PySem.W.codeIn K n13 d.qual && (He.dflB K n8 [] && He.kwdB K n9 [])) = true := c2
      obtain ⟨k1, k2⟩ := He.ba c3
      obtain ⟨k3, k4⟩ := He.ba k2
      exact ⟨_, ⟨oc, od, n8, n9, n10, n11, n12, n13, n14, osl, rfl, q, k1, He.dflB_ok k3, He.kwdB_ok k4⟩, kp⟩
    | _ => cases c2
abbrev AlG : Type := Bool × List He.FnW
def obsG (gs : List GetD) (K : PySem.W.Frag) : AlG := (gs.all fun g => prB K g.cls g.fld && okAt K (gtr K g.cls g.fld) g.d, gs.map fun g => fnAt K (gtr K g.cls g.fld))
def valG (gs : List GetD) : AlG := (true, gs.map fun g => g.d.val)
def SaysG (gs : List GetD) (K : PySem.W.Frag) : Prop := obsG gs K = valG gs
theorem SaysG.get {gs : List GetD} {K : PySem.W.Frag} (c : SaysG gs K) (i : Nat) {g : GetD} (h : gs[i]? = some g := by rfl) :
    L2.PropOf K (He.ga K g.cls) g.fld (prA K g.cls g.fld) (gtr K g.cls g.fld) ∧ ∃ fd, FunD K g.d.name g.d.qual g.d.params g.d.body g.d.scope [] [] (gtr K g.cls g.fld) fd := by
  have c1 : (gs.all fun g => prB K g.cls g.fld && okAt K (gtr K g.cls g.fld) g.d) = true := congrArg (fun z : AlG => z.1) c
  have c2 : (gs.map fun g => fnAt K (gtr K g.cls g.fld)) = gs.map fun g => g.d.val := congrArg (fun z : AlG => z.2) c
  obtain ⟨h1, h2⟩ := He.ba (List.all_eq_true.mp c1 g (List.mem_of_getElem? h))
  have e2 : (gs.map fun g => fnAt K (gtr K g.cls g.fld))[i]? = (gs.map fun g => g.d.val)[i]? := by rw [c2]
  rw [List.getElem?_map, List.getElem?_map, h] at e2
  exact ⟨prB_ok h1, funD_at (Option.some.inj e2) h2⟩
/-- the head's Hook with getters -/
abbrev AlY : Type := He.AlX × AlG
def obsY (n : Nat) (fa : List He.Fa) (fn : List He.DefD) (gs : List GetD) (tf : List He.Defn) (ex : PySem.W.Frag → Bool) (g : Addr → Option Obj) : AlY := (He.obsX n fa fn [] tf ex g, obsG gs (He.frT g (He.asD g n)))
def valY (fn : List He.DefD) (gs : List GetD) (w : World) : AlY := (He.valX fn [] w, valG gs)
def hookY (n : Nat) (fa : List He.Fa) (fn : List He.DefD) (gs : List GetD) (tf : List He.Defn) (ex : PySem.W.Frag → Bool) : PySem.W.Hook where
  α := AlY
  obs := fun s => obsY n fa fn gs tf ex s.heap.get?
  val := fun w => valY fn gs w
  says := fun w h => ∃ K : PySem.W.Frag, K.In h ∧ He.SaysX fa fn [] tf ex w h K ∧ SaysG gs K
  of := fun _ _ e => ⟨_, He.frT_in, He.saysX_of (congrArg (fun z : AlY => z.1) e), congrArg (fun z : AlY => z.2) e⟩
  keeps := fun _ _ _ ⟨K, hK, c, g⟩ k => ⟨K, PySem.W.Frag.In.keeps hK k, ⟨c.t, c.more, c.hd, c.out, fun p hp => k _ _ (c.empty p hp)⟩, g⟩
theorem obsY_eq {n : Nat} {fa : List He.Fa} {fn : List He.DefD} {gs : List GetD} {tf : List He.Defn} {ex : PySem.W.Frag → Bool} {g : Addr → Option Obj} {s : Shared} (h : ∀ a, g a = s.heap.get? a) : obsY n fa fn gs tf ex g = (hookY n fa fn gs tf ex).obs s := by
  have e : g = s.heap.get? := funext h
  rw [e] <;> rfl
structure Lw (P : Program) (fa : List He.Fa) (fn : List He.DefD) (gs : List GetD) (tf : List He.Defn) (exs : Exs) where
  w : World
  K : PySem.W.Frag
  mg : Str → Option Value
  h : Heap
  X : K.In h
  ns : h.Ns mainGlobals mg
  c : He.SaysX fa fn [] tf (allEx exs) w h K
  g : SaysG gs K
section
variable {P : Program} {fa : List He.Fa} {fn : List He.DefD} {gs : List GetD} {tf : List He.Defn} {exs : Exs}
theorem Lw.fact (L : Lw P fa fn gs tf exs) (i : Nat) {f : He.Fa} (h : fa[i]? = some f := by rfl) : f.ok L.K = true := L.c.t.d.fact i h
theorem Lw.glo (L : Lw P fa fn gs tf exs) (i : Nat) {x : Str} (h : fa[i]? = some (.glo x) := by rfl) : L.mg x = some (.ref (He.ga L.K x)) := He.glo_ok L.X L.ns (L.fact i h)
theorem Lw.free (L : Lw P fa fn gs tf exs) (i : Nat) {x : Str} (h : fa[i]? = some (.free x) := by rfl) : L.mg x = none := He.free_ok L.X L.ns (L.fact i h)
theorem Lw.int (L : Lw P fa fn gs tf exs) (i : Nat) {x : Str} {k : Int} (h : fa[i]? = some (.int x k) := by rfl) : ∃ t, L.mg x = some (.int k t) := He.int_ok L.X L.ns (L.fact i h)
theorem Lw.str (L : Lw P fa fn gs tf exs) (i : Nat) {x z : Str} (h : fa[i]? = some (.str x z) := by rfl) : ∃ t, L.mg x = some (.str z t) := He.str_ok L.X L.ns (L.fact i h)
theorem Lw.ex (L : Lw P fa fn gs tf exs) (i : Nat) {e : PySem.W.Frag → Bool} (h : exs[i]? = some e := by rfl) : e L.K = true := List.all_eq_true.mp (show (exs.all fun e => e L.K) = true from L.c.more) e (List.mem_of_getElem? h)
theorem Lw.def_ (L : Lw P fa fn gs tf exs) (i : Nat) {d : He.DefD} (h : fn[i]? = some d := by rfl) : ∃ fd, FunD L.K d.name d.qual d.params d.body d.scope (d.dvs L.K) (d.kws L.K) (He.fAd L.K d.at_) fd := L.c.t.d.def_ i h
/-- tables: the defs that make lambdas, the lambdas' qualified name -/
def tabsOf (tq : List (He.Defn × Str)) (K : PySem.W.Frag) : List (Addr × Str) := tq.map fun p => ((He.cT K p.1).2, p.2)
abbrev Lw.G (L : Lw P fa fn gs tf exs) (tq : List (He.Defn × Str)) (cl : List Str) (b : Heap) (kc : Nat) : Gz := ⟨⟨P, L.w, L.K, L.mg, tabsOf tq L.K, cl⟩, b, kc⟩
/-- what a base must hold -/
def Lw.Bs (L : Lw P fa fn gs tf exs) (b : Heap) : Prop := ∀ p ∈ tf, LamX.TabB b L.mg (He.cT L.K p).1 (He.cT L.K p).2
theorem Lw.Bs.ext {L : Lw P fa fn gs tf exs} {b b' : Heap} (B : L.Bs b) (x : Ext b b') : L.Bs b' := fun p hp => ⟨(B p hp).code.keeps x.k, (B p hp).bm.keeps x.k, (B p hp).gP⟩
theorem Lw.Bs.at (L : Lw P fa fn gs tf exs) {b : Heap} (B : L.Bs b) (i : Nat) {p : He.Defn} (h : tf[i]? = some p := by rfl) : LamX.TabB b L.mg (He.cT L.K p).1 (He.cT L.K p).2 := B p (List.mem_of_getElem? h)
/-- the tables stand apart -/
def apartB (tq : List (He.Defn × Str)) (K : PySem.W.Frag) : Bool := decide ((tq.map fun p => (He.cT K p.1).2).Nodup)
theorem tabs_mem {tq : List (He.Defn × Str)} {K : PySem.W.Frag} (i : Nat) {p : He.Defn} {q : Str} (h : tq[i]? = some (p, q) := by rfl) : ((He.cT K p).2, q) ∈ tabsOf tq K := List.mem_map.mpr ⟨(p, q), List.mem_of_getElem? h, rfl⟩
theorem tabs_uniq {K : PySem.W.Frag} : ∀ {tq : List (He.Defn × Str)}, ((tq.map fun p => (He.cT K p.1).2).Nodup) → ∀ {p : He.Defn} {q : Str}, (p, q) ∈ tq → ∀ z ∈ tabsOf tq K, z.1 = (He.cT K p).2 → z.2 = q
  | [], _, _, _, h, _, _, _ => by cases h
  | (p0, q0) :: r, nd, p, q, h, z, hz, e => by
    rw [List.map_cons, List.nodup_cons] at nd
    have hz' : z = ((He.cT K p0).2, q0) ∨ z ∈ tabsOf r K := List.mem_cons.mp hz
    rcases List.mem_cons.mp h with h | h
    · cases h
      rcases hz' with hz | hz
      · rw [hz]
      · obtain ⟨y, hy, rfl⟩ := List.mem_map.mp hz
        exact absurd (List.mem_map.mpr ⟨y, hy, e⟩) nd.1
    · rcases hz' with hz | hz
      · subst hz
        exact absurd (List.mem_map.mpr ⟨(p, q), h, e.symm⟩) nd.1
      · exact tabs_uniq nd.2 h z hz e
theorem tabs_u {tq : List (He.Defn × Str)} {K : PySem.W.Frag} (a : apartB tq K = true) (i : Nat) {p : He.Defn} {q : Str} (h : tq[i]? = some (p, q) := by rfl) : ∀ z ∈ tabsOf tq K, z.1 = (He.cT K p).2 → z.2 = q :=
  tabs_uniq (of_decide_eq_true a) (List.mem_of_getElem? h)
/-- a def's promise, for every base -/
structure DefOk (L : Lw P fa fn gs tf exs) (tq : List (He.Defn × Str)) (cl : List Str) (d : He.DefD) (a : Addr) (fd : FuncData) (lv : Nat) (ps : List Str) (n : Nat) (f : List DC → Mo D) : Prop where
  F : FunD L.K d.name d.qual d.params d.body d.scope [] [] a fd
  bd : Binds L.K fd ps []
  ok : ∀ b, L.Bs b → ∀ kc, FnOk P L.w L.K L.mg b (L2.CX P L.w) (kc + lv) a fd ps (spOf (L.G tq cl b kc) n f)
end
/-! ### constants of the module -/
section
variable {G : Gz} {X : Cx} {W : WX} {x : Str} {pos : Pos}
theorem se_gint {i : Int} (hg : Gl X x) (hm : ∃ t, X.mg x = some (.int i t)) (hd : (x == ("__debug__" : Str)) = false := by decide) : PE X (.Name x pos) (tE G W (cD (.int i))) := by
  obtain ⟨t, hm⟩ := hm
  exact se_c (pe_glob (v := .int i) hg hm ⟨t, rfl⟩ hd) fun _ _ => .int i
theorem se_gstr {z : Str} (hg : Gl X x) (hm : ∃ t, X.mg x = some (.str z t)) (hd : (x == ("__debug__" : Str)) = false := by decide) : PE X (.Name x pos) (tE G W (cD (.str z))) := by
  obtain ⟨t, hm⟩ := hm
  exact se_c (pe_glob (v := .str z) hg hm ⟨t, rfl⟩ hd) fun _ _ => .str z
/-- a tuple of texts and ints that K holds -/
inductive Cn where
  | int (i : Int) | str (x : Str)
def Cn.d : Cn → PyData
  | .int i => .int i
  | .str x => .str x
def Cn.dv : Cn → He.Dv
  | .int i => .int i
  | .str x => .str x
theorem cn_dq {K K' : PySem.W.Frag} {H : Hp} {as : As} : ∀ l : List Cn, DqAll K' H as (l.map (He.Dv.v K ∘ Cn.dv)) (l.map Cn.d)
  | [] => .nil
  | .int i :: l => .cons (.int i) (cn_dq l)
  | .str x :: l => .cons (.str x) (cn_dq l)
theorem tupB_k {K : PySem.W.Frag} {x : Str} {vs : List He.Dv} (h : He.tupB K x vs = true) : ∃ (o : Obj) (its : Array Value) (n : Nat), K.lookup (He.ga K x) = some o ∧ o.cls = .type "tuple" ∧ o.data = .seq its n ∧ its.size ≤ sizeLine ∧ Vals (vs.map (He.Dv.v K)) its.toList := by
  have z := He.tupB_ok h (fun _ => none)
  rcases z with (z | ⟨o, z⟩) | z
  · cases z
  · cases z
  · exact z
theorem se_gtup {K : PySem.W.Frag} (l : List Cn) (eK : G.K = K) (hg : Gl X x) (hm : X.mg x = some (.ref (He.ga K x))) (h : He.tupB K x (l.map Cn.dv) = true) (hd : (x == ("__debug__" : Str)) = false := by decide) : PE X (.Name x pos) (tE G W (cD (.tuple (l.map Cn.d)))) := by
  obtain ⟨o, its, n, h1, h2, h3, h4, h5⟩ := tupB_k h
  rw [List.map_map] at h5
  exact se_c (pe_glob (v := .ref (He.ga K x)) hg hm rfl hd) fun H as => .tup (.inr ⟨o, its, n, by rw [eK]; exact h1, h2, h3, h4, h5⟩) (cn_dq l)
end
end Zp

set_option Elab.async false
set_option linter.all false
set_option autoImplicit false
set_option maxRecDepth 100000
set_option maxHeartbeats 4000000
namespace Zp
open PySem PySem.Spec PyProof.Rows L2
/-! ### tests -/
section
variable {G : Gz} {X : Cx} {W : WX} {k j : Nat} {a b e : Expr} {f g : Ev → Mo D} {pos : Pos}
theorem st_cmpG {op : CmpOp} {r : R2} {o : D → D → Mo D} (ho : OpR X (compareOp op) r) (hr : Op2 G r o) (ha : PE X a (tE G W f)) (hb : PE X b (tE G W g)) (hm : behindInMarks op b = false) : PT X (.Compare a [op] [b] pos) (tB G W (cBl (cOp2 o f g))) := by
  refine PT.imp (pt_cmpR ho ha hb hm) ?_
  intro σ H Q h
  exact op2_imp hr σ H _ (bl_imp σ H Q h)
theorem st_in (C : Cz G X W k) (ha : PE X a (tE G W f)) (hb : PE X b (tE G W g)) (hm : behindInMarks .In b = false := by rfl) : PT X (.Compare a [.In] [b] pos) (tB G W (cBl (cIn false f g))) := by
  have h := inAt_op (G := G.toGx) (neg := false)
  rw [← C.fit.K, ← C.fit.w] at h
  exact st_cmpG ((op_cmpA C.hu .In).or (op_inN (by have := C.hu; omega))) h ha hb hm
theorem st_nin (C : Cz G X W k) (ha : PE X a (tE G W f)) (hb : PE X b (tE G W g)) (hm : behindInMarks .NotIn b = false := by rfl) : PT X (.Compare a [.NotIn] [b] pos) (tB G W (cBl (cIn true f g))) := by
  have h := inAt_op (G := G.toGx) (neg := true)
  rw [← C.fit.K, ← C.fit.w] at h
  exact st_cmpG ((op_cmpA C.hu .NotIn).or (op_ninN (by have := C.hu; omega))) h ha hb hm
theorem st_eqT {tb : List (Str × (List DC → Mo D))} (C : Cz G X W k) (hB : X.base = G.base) (hj : j + 1 ≤ k) (hc : ∀ c g, (c, g) ∈ tb → EqF G j c g) (ha : PE X a (tE G W f)) (hb : PE X b (tE G W g)) (hm : behindInMarks .Eq b = false := by rfl) : PT X (.Compare a [.Eq] [b] pos) (tB G W (cBl (cEqT tb false f g))) :=
  st_cmpG ((op_cmpA C.hu .Eq).or (op_eqO false)) (eqT_op (neg := false) C hB hj hc) ha hb hm
theorem st_neT {tb : List (Str × (List DC → Mo D))} (C : Cz G X W k) (hB : X.base = G.base) (hj : j + 1 ≤ k) (hc : ∀ c g, (c, g) ∈ tb → EqF G j c g) (ha : PE X a (tE G W f)) (hb : PE X b (tE G W g)) (hm : behindInMarks .NotEq b = false := by rfl) : PT X (.Compare a [.NotEq] [b] pos) (tB G W (cBl (cEqT tb true f g))) :=
  st_cmpG ((op_cmpA C.hu .NotEq).or (op_eqO true)) (eqT_op (neg := true) C hB hj hc) ha hb hm
/-- wishes that do not look at the slots -/
theorem Cz.all (C : Cz G X W k) : Cz G X (fun c d _ H => ∀ σ, W c d σ H) k where
  fit := C.fit
  tk := fun u s x => C.tk u s (by
    obtain ⟨a1, a2, a3, a4, a5, a6, a7, a8, a9, a10, a11, a12, a13, a14, a15, a16, z⟩ := x
    exact ⟨a1, a2, a3, a4, a5, a6, a7, a8, a9, a10, a11, a12, a13, a14, a15, a16, z _⟩)
  calm := C.calm
  room := C.room
  own := C.own
end
end Zp

set_option Elab.async false
set_option linter.all false
set_option autoImplicit false
set_option maxRecDepth 100000
set_option maxHeartbeats 4000000
namespace Zp
open PySem PySem.Spec PyProof.Rows L2
/-! ### small things for derivations -/
def inCls (s : Stmt) (j : Nat) : Stmt := match s with
  | .ClassDef _ _ _ body _ _ _ _ _ _ _ => body.getD j (.Pass ⟨0, 0, 0, 0⟩)
  | _ => .Pass ⟨0, 0, 0, 0⟩
theorem FunD.kwB {K : PySem.W.Frag} {x qual : Str} {params : Arguments} {body : List Stmt} {scope : Scope} {kws : List (Str × V)} {f : Addr} {fd : FuncData} {ps ks : List Str} {n1 n2 : Nat} {perm : List Nat} (F : FunD K x qual params body scope [] kws f fd)
    (h : ∀ (kV doc pm : Value) (an : Option Addr) (cdv ct : Value) (us ws : List Value), us.length = n1 → ws.length = n2 → bindArgs (PySem.W.fnOf x qual params body scope .none kV doc pm an cdv ct) ⟨us, ks.zip ws⟩ = pure (ps.zip (permL perm (us ++ ws)))) : KwB K fd ps ks n1 n2 perm := by
  obtain ⟨oc, od, dV, kV, doc, pm, an, cdv, ct, osl, rfl, lk, hcd, hD, hK⟩ := F.ex
  rcases hD with ⟨_, rfl⟩ | ⟨e, _⟩
  · exact ⟨fun s us ws _ h1 h2 => .of_eq (h kV doc pm an cdv ct us ws h1 h2)⟩
  · exact absurd rfl e
theorem ss_no {G : Gz} {X : Cx} {W : WX} {ss : List Stmt} : PSs X ss (tS G W sNo) := by
  cases ss with
  | nil => exact Zp.PSs.imp (ss_nil (G := G) (W := W)) fun D σ H ⟨ρ, as, st, re, rs, hp⟩ => hp.elim
  | cons s r => exact Zp.PSs.imp (ss_cons (sp_no (G := G) (W := W) (s := s)) (ss_no (G := G) (W := W) (ss := r))) fun D σ H ⟨ρ, as, st, re, rs, hp⟩ => hp.elim
def freeB (sc scope : Scope) : Bool := scope.names.all fun y => match y.2 with
  | .free => (match sc.names.lookup y.1 with
    | some .cell => true
    | some .free => true
    | _ => false)
  | _ => true
theorem free_by {sc scope : Scope} (h : freeB sc scope = true) : ∀ y ∈ scope.names, y.2 = .free → sc.names.lookup y.1 = some .cell ∨ sc.names.lookup y.1 = some .free := fun y hy e => by
  have h1 := List.all_eq_true.mp h y hy
  rw [e] at h1
  have h2 : (match sc.names.lookup y.1 with
    | some .cell => true
    | some .free => true
    | _ => false) = true := h1
  split at h2
  · exact .inl (by assumption)
  · exact .inr (by assumption)
  · cases h2
def frsB (fr : List Str) (scope : Scope) : Bool := fr.all fun y => scope.names.any fun z => decide (z = (y, NameKind.free))
theorem frs_by {fr : List Str} {scope : Scope} (h : frsB fr scope = true) : ∀ y ∈ fr, (y, NameKind.free) ∈ scope.names := fun y hy => by
  have h1 := List.all_eq_true.mp h y hy
  obtain ⟨z, hz, e⟩ := List.any_eq_true.mp h1
  rw [← of_decide_eq_true e]; exact hz
theorem bt_len : bootBuiltins "len" = some (.builtin "len") := by rfl
theorem bt_abs : bootBuiltins "abs" = some (.builtin "abs") := by rfl
theorem bt_max : bootBuiltins "max" = some (.builtin "max") := by rfl
theorem bt_min : bootBuiltins "min" = some (.builtin "min") := by rfl
theorem bt_sum : bootBuiltins "sum" = some (.builtin "sum") := by rfl
theorem bt_all : bootBuiltins "all" = some (.builtin "all") := by rfl
theorem bt_any : bootBuiltins "any" = some (.builtin "any") := by rfl
theorem bt_divmod : bootBuiltins "divmod" = some (.builtin "divmod") := by rfl
theorem bt_sorted : bootBuiltins "sorted" = some (.builtin "sorted") := by rfl
theorem bt_int : bootBuiltins "int" = some (.type "int") := by rfl
theorem bt_bool : bootBuiltins "bool" = some (.type "bool") := by rfl
theorem bt_str : bootBuiltins "str" = some (.type "str") := by rfl
theorem bt_list : bootBuiltins "list" = some (.type "list") := by rfl
theorem bt_tuple : bootBuiltins "tuple" = some (.type "tuple") := by rfl
theorem bt_dict : bootBuiltins "dict" = some (.type "dict") := by rfl
theorem bt_set : bootBuiltins "set" = some (.type "set") := by rfl
theorem bt_zip : bootBuiltins "zip" = some (.type "zip") := by rfl
/-! ### classes, by the head's Bools -/
section
variable {P : Program} {fa : List He.Fa} {fn : List He.DefD} {gs : List GetD} {tf : List He.Defn} {exs : Exs}
def ty6 : List String := ["int", "bool", "str", "tuple", "list", "dict"]
def ty7 : List String := ["NoneType", "bool", "int", "str", "list", "tuple", "dict"]
def insB (cl : List Str) (K : PySem.W.Frag) : Bool := cl.all fun c => He.eqO (PySem.W.nsIn K mainGlobals c) (some (some (.ref (He.ga K c)))) && ((He.Fa.cls c).ok K && (He.eqO (PySem.W.findIn K (.ref (He.ga K c)) "__class__") (some (some (.builtin "object.__class__"))) && (decide (PySem.W.mroIn K (He.ga K c) (.type "object") = some true) &&
  ty6.all fun T => decide (PySem.W.kitOne K (.ref (He.ga K c)) (.type T) = some false))))
def ins0B (K : PySem.W.Frag) : Bool := He.eqO (PySem.W.specialIn K (.builtin "object.__class__") "__get__") (some (some (.builtin "getset_descriptor.__get__"))) && decide (PySem.W.takesIn K (.builtin "object.__class__") = some true)
theorem glo_c {L : Lw P fa fn gs tf exs} {c : Str} {C : Addr} (h : He.eqO (PySem.W.nsIn L.K mainGlobals c) (some (some (.ref (He.ga L.K c)))) = true) (e : L.mg c = some (.ref C)) : C = He.ga L.K c := by
  have h1 := PySem.W.mg_of L.X L.ns (He.eqO_ok h)
  rw [h1] at e; cases e; rfl
theorem insF_ok (L : Lw P fa fn gs tf exs) (tq : List (He.Defn × Str)) {cl : List Str} (b : Heap) (kc : Nat) (h : insB cl L.K = true) (h0 : ins0B L.K = true) : InsF (L.G tq cl b kc).toGx := by
  obtain ⟨h01, h02⟩ := He.ba h0
  have key : ∀ c ∈ cl, ∀ C, L.mg c = some (.ref C) → C = He.ga L.K c ∧ InsOk L.K C ∧ ∀ T ∈ ty6, PySem.W.kitOne L.K (.ref C) (.type T) = some false := fun c hc C e => by
    have h1 := List.all_eq_true.mp h c hc
    obtain ⟨g1, h1⟩ := He.ba h1
    obtain ⟨g2, h1⟩ := He.ba h1
    obtain ⟨g3, h1⟩ := He.ba h1
    obtain ⟨g4, g5⟩ := He.ba h1
    have eC := glo_c g1 e
    subst eC
    exact ⟨rfl, ⟨He.cls_ok g2, He.eqO_ok g3, He.eqO_ok h01, of_decide_eq_true h02, of_decide_eq_true g4⟩, fun T hT => of_decide_eq_true (List.all_eq_true.mp g5 T hT)⟩
  exact ⟨fun c hc C e => (key c hc C e).2.1, fun c hc C e => (key c hc C e).2.2⟩
def iscB (cl : List Str) (c : Str) (K : PySem.W.Frag) : Bool := (ty7.all fun a => decide (PySem.W.kitOne K (.type a) (.ref (He.ga K c)) = some false)) && cl.all fun c' => He.eqO (PySem.W.nsIn K mainGlobals c') (some (some (.ref (He.ga K c')))) && decide (PySem.W.kitOne K (.ref (He.ga K c')) (.ref (He.ga K c)) = some (c' == c))
theorem iscF_ok (L : Lw P fa fn gs tf exs) (tq : List (He.Defn × Str)) {cl : List Str} {c : Str} (b : Heap) (kc : Nat) (h : iscB cl c L.K = true) : IsC (L.G tq cl b kc).toGx c (He.ga L.K c) := by
  obtain ⟨h1, h2⟩ := He.ba h
  refine ⟨fun a ha => of_decide_eq_true (List.all_eq_true.mp h1 a ha), fun c' hc' C' e => ?_⟩
  obtain ⟨g1, g2⟩ := He.ba (List.all_eq_true.mp h2 c' hc')
  have eC := glo_c g1 e
  subst eC
  exact of_decide_eq_true g2
def eqcB (c : Str) (K : PySem.W.Frag) : Bool := (He.Fa.glo c).ok K && ((He.Fa.cls c).ok K && (He.eqO (PySem.W.findIn K (.ref (He.ga K c)) "__eq__") (some (some (.ref (He.ma K (He.ga K c) "__eq__")))) && (PySem.W.isFn K (.ref (He.ma K (He.ga K c) "__eq__")) &&
  (He.eqO (PySem.W.findIn K (.ref (He.ga K c)) "__ne__") (some (some (.builtin "object.__ne__"))) && decide (PySem.W.mroIn K (He.ga K c) (.type "object") = some true)))))
theorem eqc_ok {L : Lw P fa fn gs tf exs} {c : Str} (h : eqcB c L.K = true) : L.mg c = some (.ref (He.ga L.K c)) ∧ OwnE L.K (He.ga L.K c) (He.ma L.K (He.ga L.K c) "__eq__") := by
  unfold eqcB at h
  simp only [Bool.and_eq_true] at h
  obtain ⟨h0, h1, h2, h3, h4, h5⟩ := h
  exact ⟨He.glo_ok L.X L.ns h0, He.cls_ok h1, He.eqO_ok h2, h3, He.eqO_ok h4, of_decide_eq_true h5⟩
end
end Zp

set_option Elab.async false
set_option linter.all false
set_option autoImplicit false
set_option maxRecDepth 100000
set_option maxHeartbeats 4000000
namespace Zp
open PySem PySem.Spec PyProof.Rows L2
/-! ### x[::-1] -/
section
variable {prog : Program} {w : World} {A : Around} {E : Value → Shared → Prop} {s : Shared}
theorem places_rev (n : Nat) : Builtin.Slice.slicePlaces ((n : Int) - 1) (-1) (-1) = n := by
  unfold Builtin.Slice.slicePlaces
  rw [if_neg (by decide)]
  by_cases h : (n : Int) - 1 > -1
  · rw [if_pos h]
    have e : ((n : Int) - 1 - -1 - 1) / (- -1) = (n : Int) - 1 := by
      rw [show (- -1 : Int) = 1 by decide, Int.ediv_one]; omega
    rw [e]; omega
  · rw [if_neg h]; omega
theorem sliceApplied_rev {sl : Addr} {vs : Value} {n : Nat} {Q : Int × Int × Nat → Shared → Prop} (hs : s.heap.IsSliceOf sl .none .none vs) (ps : IsPart vs (some (-1)))
    (h : Q ((n : Int) - 1, -1, n) s) : wpAny (model prog w) A (Builtin.Slice.sliceApplied (.ref sl) (pure (n : Int))) Q E s := by
  obtain ⟨os, hos, hcs, hds⟩ := id hs
  unfold Builtin.Slice.sliceApplied Builtin.Slice.sliceFields
  refine wpAny_bind (wpAny_bind (wpAny_field hos hds (x := .none) rfl (wpAny_bind (wpAny_field hos hds (x := .none) rfl (wpAny_bind (wpAny_field hos hds (x := vs) rfl (wpAny_pure ?_)))))))
  refine wpAny_bind (HT.slicePart_ ps ?_)
  show wpAny _ _ (if ((-1 : Int) == 0) = true then _ else _) _ _ s
  rw [if_neg (by decide)]
  refine wpAny_bind (slicePart_none (wpAny_bind (slicePart_none (wpAny_bind (wpAny_pure ?_)))))
  show wpAny _ _ (pure ((n : Int) - 1, (-1 : Int), Builtin.Slice.slicePlaces ((n : Int) - 1) (-1) (-1))) _ _ s
  rw [places_rev]
  exact wpAny_pure h
theorem pick_rev (xs : Array Value) : ((List.range xs.size).filterMap fun (k : Nat) => xs[((xs.size : Int) - 1 + (k : Int) * (-1)).toNat]?).toArray = xs.toList.reverse.toArray := by
  have e : (List.range xs.size).filterMap (fun (k : Nat) => xs[((xs.size : Int) - 1 + (k : Int) * (-1)).toNat]?) = ((List.range xs.size).map fun k => xs.size - 1 - k).filterMap (xs[·]?) := by
    rw [List.filterMap_map]
    have go : ∀ l : List Nat, (∀ k ∈ l, k < xs.size) → l.filterMap (fun (k : Nat) => xs[((xs.size : Int) - 1 + (k : Int) * (-1)).toNat]?) = l.filterMap ((fun x => xs[x]?) ∘ fun k => xs.size - 1 - k) := by
      intro l
      induction l with
      | nil => exact fun _ => rfl
      | cons k r ih =>
        intro h
        have hk := h k List.mem_cons_self
        have ek : ((xs.size : Int) - 1 + (k : Int) * (-1)).toNat = xs.size - 1 - k := by omega
        rw [List.filterMap_cons, List.filterMap_cons, ih fun j hj => h j (List.mem_cons_of_mem _ hj), ek]
        rfl
    exact go _ fun k hk => List.mem_range.mp hk
  rw [e, PySem.W.krv_range, List.filterMap_reverse, PySem.W.krv_all]
theorem getItem_tuple_rev {t sl : Addr} {items : Array Value} {vs : Value} {Q : Value → Shared → Prop} (ht : IsTup s.heap t items) (hs : s.heap.IsSliceOf sl .none .none vs) (ps : IsPart vs (some (-1)))
    (h : Q (.ref s.heap.objs.size) { s with heap := s.heap.push { cls := .type "tuple", data := .seq items.toList.reverse.toArray } })
    (hsz : items.size ≤ sizeLine) : wpAny (model prog w) A (getItem (.ref t) (.ref sl)) Q E s := by
  have htake : sizeOk (.seq items.toList.reverse.toArray) := by
    show items.toList.reverse.toArray.size ≤ sizeLine
    rw [List.size_toArray, List.length_reverse, Array.length_toList]
    exact hsz
  obtain ⟨os, hos, hcs, hds⟩ := id hs
  have hTs : s.TypeIs (.ref sl) "slice" := ⟨os, hos, hcs⟩
  unfold getItem
  try with_reducible refine wpAny_holding ?_
  first | refine wpAny_bind (wpAny_pure ?_) | skip
  refine wpAny_bind (wpAny_sequenceKey ht.typeIs (by decide) ?_)
  refine wpAny_bind (wpAny_callSpecial?_slot (name := Str.ofString "__getitem__") ht.typeIs PyProof.Rows.slot_tuple_getitem
    (wpAny_call_entry PyProof.Rows.slot_tuple_getitem ht.typeIs entry_tuple_getitem ?_ (args_tuple_getitem _ _)))
  show wpAny _ _ (Builtin.Tuple.tupleItemsOf (.ref t) >>= _) _ _ s
  refine wpAny_bind (tupleItemsOf_ ht ?_)
  refine wpAny_bind (wpAny_typeOf hTs ?_)
  rw [if_pos (by decide)]
  refine wpAny_bind (sliceApplied_rev hs ps ?_)
  have hno : ¬ ((((items.size : Int) - 1 == 0) && ((-1 : Int) == 1) && (items.size == items.size)) = true) := by
    intro q
    rw [Bool.and_eq_true, Bool.and_eq_true] at q
    exact absurd q.1.2 (by decide)
  show wpAny _ _ (if (((items.size : Int) - 1 == 0) && ((-1 : Int) == 1) && (items.size == items.size)) = true then _ else _) _ _ s
  rw [if_neg hno, pick_rev]
  first
    | exact wpAny_bind (m := Builtin.Tuple.tupleExact _) (wpAny_newObj_type (wpAny_pure ⟨_, rfl, wpAny_pure h⟩) htake)
    | exact wpAny_bind (m := Builtin.Tuple.tupleExact _) (wpAny_newObj_type (wpAny_bind (wpAny_pure (wpAny_pure ⟨_, rfl, wpAny_pure h⟩))) htake)
    | exact wpAny_bind (wpAny_bind (m := Builtin.Tuple.tupleExact _) (wpAny_newObj_type (wpAny_pure (wpAny_pure ⟨_, rfl, wpAny_pure h⟩)) htake))
    | exact wpAny_bind (wpAny_bind (m := Builtin.Tuple.tupleExact _) (wpAny_newObj_type (wpAny_pure ⟨_, rfl, wpAny_pure h⟩) htake))
end
section
variable {X : Cx}
def tRevT (K : PySem.W.Frag) (te : TE) : TE := fun σ H Q => te σ H fun x H1 => ∃ a xs, x = .ref a ∧ SqT K H1 a xs ∧ ∀ p, H1 p = none → Q (.ref p) (upd H1 p (.tup xs.reverse))
def tRevA (K : PySem.W.Frag) (te : TE) : TE := fun σ H Q => te σ H fun x H1 => ∃ a xs, x = .ref a ∧ ((SqL K H1 a xs ∧ ∀ p, H1 p = none → Q (.ref p) (upd H1 p (.lst xs.reverse))) ∨ (SqT K H1 a xs ∧ ∀ p, H1 p = none → Q (.ref p) (upd H1 p (.tup xs.reverse))))
theorem pe_revA {e : Expr} {te : TE} {k : Nat} {p1 p2 p3 pos : Pos} (he : PE X e te) : PE X (.Subscript e (.Slice none none (some (.UnaryOp .USub (.Constant (.int 1) k p1) p2)) p3) pos) (tRevA X.K te) := by
  refine ⟨fun pins s σ H Q I h => ?_⟩
  refine Subscript_ (thn (he.run pins s σ H _ I h) fun v s1 ⟨x, H1, I1, r1, q1⟩ => ?_)
  obtain ⟨a, xs, ex, hxq⟩ := q1
  subst ex
  cases r1
  have hst : PO X (some (.UnaryOp .USub (.Constant (.int 1) k p1) p2)) (tPart (tUn (rU fun i => .int (-i)) (tC (.int 1)))) := po_some (pe_un un_neg pe_int)
  refine wpAny_Slice (thn (po_none.run pins s1 σ H1 (fun o H2 => o = none ∧ H2 = H1) I1 ⟨rfl, rfl⟩) fun vl s2 ⟨l, H2, I2, pl, el, e2⟩ => ?_)
  subst el e2
  refine thn (po_none.run pins s2 σ H2 (fun o H3 => o = none ∧ H3 = H2) I2 ⟨rfl, rfl⟩) fun vu s3 ⟨u, H3, I3, pu, eu, e3⟩ => ?_
  subst eu e3
  refine thn (hst.run pins s3 σ H3 (fun o H4 => o = some (-1) ∧ H4 = H3) I3 ⟨1, rfl, -1, rfl, rfl, rfl⟩) fun vs s4 ⟨o, H4, I4, ps, eo, e4⟩ => ?_
  subst eo e4
  have I5 : Inv X pins σ H4 { s4 with heap := s4.heap.push { cls := .type "slice", data := .fields #[vl, vu, vs] } } := I4.kept (t' := s4.toks) fun b ob q => Heap.get?_push_of_some _ q
  rcases hxq with ⟨hx, q⟩ | ⟨hx, q⟩
  · obtain ⟨its, r, ht, hz⟩ := I5.list hx
    have hlen := r.length
    show wpAny (model X.prog X.w) X.A (subscriptTail e (.Slice none none (some (.UnaryOp .USub (.Constant (.int 1) k p1) p2)) p3) (.ref a) (.ref s4.heap.objs.size)) (EP X pins σ Q) X.xe { s4 with heap := s4.heap.push { cls := .type "slice", data := .fields #[vl, vu, vs] } }
    refine tail_any (ops := [.ref a, .ref s4.heap.objs.size]) ht.isList.typeIs (PySem.slot_list_getitem.lookup) ?_ (by with_unfolding_all rfl)
    refine wpAny_getItem_list_slice ht.isList (Heap.IsSliceOf.new _ vl vu vs) pl pu ps (by decide) ?_ (by rw [List.size_toArray]; omega)
    rw [PySem.W.krv_pick]
    refine ⟨.ref _, _, I5.laid (t' := s4.toks) (o := .lst xs.reverse) (fun b ob q => Heap.get?_push_of_some _ q) (Nat.le_refl _) ?_, rfl, q _ (I5.hok.fresh (Nat.le_refl _))⟩
    exact ⟨by rw [List.length_reverse]; exact hz, _, 0, r.reverse, Heap.get?_push_size _ rfl⟩
  · obtain ⟨its, r, ht, hz⟩ := I5.tuple hx
    have hlen := r.length
    cases pl
    cases pu
    show wpAny (model X.prog X.w) X.A (subscriptTail e (.Slice none none (some (.UnaryOp .USub (.Constant (.int 1) k p1) p2)) p3) (.ref a) (.ref s4.heap.objs.size)) (EP X pins σ Q) X.xe { s4 with heap := s4.heap.push { cls := .type "slice", data := .fields #[.none, .none, vs] } }
    refine tail_any (ops := [.ref a, .ref s4.heap.objs.size]) ht.typeIs (PyProof.Rows.slot_tuple_getitem.lookup) ?_ (by with_unfolding_all rfl)
    refine getItem_tuple_rev ht (Heap.IsSliceOf.new _ .none .none vs) ps ?_ (by rw [List.size_toArray]; omega)
    refine ⟨.ref _, _, I5.laid (t' := s4.toks) (o := .tup xs.reverse) (fun b ob q => Heap.get?_push_of_some _ q) (Nat.le_refl _) ?_, rfl, q _ (I5.hok.fresh (Nat.le_refl _))⟩
    exact ⟨by rw [List.length_reverse]; exact hz, _, r.reverse, IsTup.new _ _⟩
end
def revO (d : D) : Mo D := fun st => match d with
  | .tup l => .ok (mkTup l.reverse) st
  | .lst l => .ok (mkLst l.reverse) st
  | .dat (.list l) => .ok (.dat (.list l.reverse)) st
  | .dat (.tuple l) => .ok (.dat (.tuple l.reverse)) st
  | .ref n => match st[n]? with
    | some (.lst l) => .ok (.dat (.list l.reverse)) st
    | _ => .bad
  | _ => .bad
def cRev (f : Ev → Mo D) (ρ : Ev) : Mo D := fun st => (f ρ st).bind revO
theorem RVs.rev {G : Gx} {H : Hp} {as : As} : ∀ {d : List D} {v : List V}, RVs G H as d v → RVs G H as d.reverse v.reverse
  | _, _, .nil => .nil
  | _, _, .cons a b => by rw [List.reverse_cons, List.reverse_cons]; exact (RVs.rev b).append (.cons a .nil)
theorem rev_ok {G : Gx} {H : Hp} {as : As} {st : List Cell} {d : D} {v : V} {E : XK} {Q : VK} (rs : Rs G as st H) (r : RV G H as d v) (hp : Post G (RV G) H as E Q (revO d st)) :
    ∃ a xs, v = .ref a ∧ ((SqL G.K H a xs ∧ ∀ p, H p = none → Q (.ref p) (upd H p (.lst xs.reverse))) ∨ (SqT G.K H a xs ∧ ∀ p, H p = none → Q (.ref p) (upd H p (.tup xs.reverse)))) := by
  unfold revO at hp
  split at hp
  · cases r with
    | tup h q => exact ⟨_, _, rfl, .inr ⟨h.sq, fun p hn => fin_tupD rs hp q.rev p hn⟩⟩
  · cases r with
    | lst h q => exact ⟨_, _, rfl, .inl ⟨h.sq, fun p hn => fin_lstD rs hp q.rev p hn⟩⟩
  · cases r with
    | dat r => cases r with
      | lst h q => exact ⟨_, _, rfl, .inl ⟨h.sq, fun p hn => fin_lst rs hp q.reverse p hn⟩⟩
  · cases r with
    | dat r => cases r with
      | tup h q => exact ⟨_, _, rfl, .inr ⟨h.sq, fun p hn => fin_tup rs hp q.reverse p hn⟩⟩
  · cases r with
    | @ref n a ea =>
      split at hp
      · rename_i l el
        obtain ⟨vs, h1, h2⟩ := rs.cell _ _ _ ea el
        exact ⟨_, _, rfl, .inl ⟨.inl (.inl h1), fun p hn => fin_lst rs hp h2.reverse p hn⟩⟩
      · exact hp.elim
  · exact hp.elim
section
variable {G : Gz} {X : Cx} {W : WX} {k : Nat} {e : Expr} {f : Ev → Mo D}
theorem se_rev {kk : Nat} {p1 p2 p3 pos : Pos} (C : Cz G X W k) (he : PE X e (tE G W f)) : PE X (.Subscript e (.Slice none none (some (.UnaryOp .USub (.Constant (.int 1) kk p1) p2)) p3) pos) (tE G W (cRev f)) := by
  have eK := C.fit.K
  refine PE.imp (pe_revA he) ?_
  rw [eK]
  intro σ H Q ⟨ρ, as, st, re, rs, hp⟩
  exact ⟨ρ, as, st, re, rs, (Post.bind hp).mono fun x H1 ⟨d, as1, st1, _, g1, rs1, ra, hp1⟩ => rev_ok rs1 ra hp1⟩
end
end Zp

set_option Elab.async false
set_option linter.all false
set_option autoImplicit false
set_option maxRecDepth 100000
set_option maxHeartbeats 4000000
namespace Zp
open PySem PySem.Spec PyProof.Rows L2
/-! ### dict(pairs) -/
abbrev KP : Type := NestedKey × V × V
abbrev foldK (ps : List KP) : List (NestedKey × V) := ps.foldl (fun acc q => putK acc q.1 q.2.2) []
section
variable {K : PySem.W.Frag} {H : Hp} {P : Program} {w : World}
/-- keys, values as they lie; the pair's own values -/
def KPok (K : PySem.W.Frag) (H : Hp) (q : KP) (u : Value × Value) : Prop := NKv K H q.1 q.2.1 ∧ RelV q.2.1 u.1 ∧ RelV q.2.2 u.2
theorem fold_byval : ∀ {ps : List KP} {us : List (Value × Value)}, Paired (KPok K H) ps us → (∀ q ∈ ps, byVal q.1 = true) → (∀ q ∈ ps, q.1.depth ≤ 8) → ∃ kvs : List (Key × Value), PairsHave (mixKind P w) us.length (fun i k v => us[i]? = some (k, v)) kvs ∧
    ∀ (aN : List (NestedKey × V)) (aV : List (Key × Value)), KV (kKV aN) aV → (∀ p ∈ aN, byVal p.1 = true) → (∀ p ∈ aN, p.1.depth ≤ 8) →
      KV (kKV (ps.foldl (fun acc q => putK acc q.1 q.2.2) aN)) (merged aV kvs) ∧ (∀ p ∈ ps.foldl (fun acc q => putK acc q.1 q.2.2) aN, byVal p.1 = true) ∧ (∀ p ∈ ps.foldl (fun acc q => putK acc q.1 q.2.2) aN, p.1.depth ≤ 8)
  | _, _, .nil, _, _ => ⟨[], ⟨rfl, fun i k v e => by simp at e⟩, fun aN aV r b d => ⟨r, b, d⟩⟩
  | q :: ps, u :: us, .cons a b, hb, hd => by
    obtain ⟨kvs, ⟨e1, e2⟩, h⟩ := fold_byval (ps := ps) (us := us) b (fun z hz => hb z (List.mem_cons_of_mem _ hz)) fun z hz => hd z (List.mem_cons_of_mem _ hz)
    have bq := hb q List.mem_cons_self
    have dq := hd q List.mem_cons_self
    refine ⟨(toKey q.1, u.2) :: kvs, ⟨by rw [List.length_cons, List.length_cons, e1], fun i k v e => ?_⟩, fun aN aV r b' d' => ?_⟩
    · cases i with
      | zero =>
        obtain rfl : u = (k, v) := Option.some.inj e
        refine ⟨toKey q.1, rfl, kV_is ?_⟩
        have := a.2.1
        rw [a.1.kV bq] at this
        exact this
      | succ i => exact e2 i k v e
    · show KV (kKV (ps.foldl _ (putK aN q.1 q.2.2))) (merged (stored aV (toKey q.1) u.2) kvs) ∧ _
      exact h _ _ (by rw [put_k bq b']; exact r.put _ a.2.2) (put_all (f := fun k => byVal k = true) bq b') (put_all (f := fun k : NestedKey => k.depth ≤ 8) dq d')
theorem fold_tup : ∀ {ps : List KP} {us : List (Value × Value)}, Paired (KPok K H) ps us → (∀ q ∈ ps, isTp q.1 = true) → (∀ q ∈ ps, q.1.depth ≤ 8) → ∃ xs : List (NestedKey × Addr × Value), PairsHaveH (nestedKind P w) us.length (fun i k v => us[i]? = some (k, v)) xs ∧ (∀ x ∈ xs, NKv K H x.1 (.ref x.2.1) ∧ x.1.depth ≤ 8) ∧
    ∀ (aN : List (NestedKey × V)) (aV : List (NestedKey × Addr × Value)), NT K H aN aV → (∀ p ∈ aN, p.1.depth ≤ 8) →
      NT K H (ps.foldl (fun acc q => putK acc q.1 q.2.2) aN) (storedAllH aV xs) ∧ (∀ p ∈ ps.foldl (fun acc q => putK acc q.1 q.2.2) aN, p.1.depth ≤ 8)
  | _, _, .nil, _, _ => ⟨[], ⟨rfl, fun i k v e => by simp at e⟩, fun x hx => by simp at hx, fun aN aV r d => ⟨r, d⟩⟩
  | q :: ps, u :: us, .cons a b, hb, hd => by
    obtain ⟨xs, ⟨e1, e2⟩, hx, h⟩ := fold_tup (ps := ps) (us := us) b (fun z hz => hb z (List.mem_cons_of_mem _ hz)) fun z hz => hd z (List.mem_cons_of_mem _ hz)
    have bq := hb q List.mem_cons_self
    have dq := hd q List.mem_cons_self
    obtain ⟨a1, a2, a3⟩ := a
    obtain ⟨c, ec⟩ := a1.ref_of bq
    rw [ec] at a1 a2
    have eu : u.1 = .ref c := a2
    refine ⟨(q.1, c, u.2) :: xs, ⟨by rw [List.length_cons, List.length_cons, e1], fun i k v e => ?_⟩, fun x hx' => ?_, fun aN aV r d' => ?_⟩
    · cases i with
      | zero =>
        obtain rfl : u = (k, v) := Option.some.inj e
        exact ⟨q.1, c, rfl, eu⟩
      | succ i => exact e2 i k v e
    · rcases List.mem_cons.mp hx' with z | z
      · subst z; exact ⟨a1, dq⟩
      · exact hx x z
    · show NT K H (ps.foldl _ (putK aN q.1 q.2.2)) (storedAllH (storedH aV q.1 c u.2) xs) ∧ _
      exact h _ _ (r.put a1 a3) (put_all (f := fun k : NestedKey => k.depth ≤ 8) dq d')
end
def clsKs (ps : List KP) : Prop := (∀ q ∈ ps, byVal q.1 = true) ∨ (∀ q ∈ ps, isTp q.1 = true)
theorem foldK_len (ps : List KP) : ∀ aN : List (NestedKey × V), (ps.foldl (fun acc q => putK acc q.1 q.2.2) aN).length ≤ aN.length + ps.length := by
  induction ps with
  | nil => intro aN; simp
  | cons q ps ih =>
    intro aN
    have h1 := ih (putK aN q.1 q.2.2)
    have h2 := length_putK aN q.1 q.2.2
    rw [List.foldl_cons, List.length_cons]
    omega
section
variable {X : Cx} {pins : List (Addr × Obj)} {σ : L2.St} {H : Hp} {s s1 : Shared}
theorem dlie_upd {K : PySem.W.Frag} {w : World} {H : Hp} {kvs : List (NestedKey × V)} {es : Array DictEntry} {p : Addr} {o : HO} (hp : H p = none) (h : DLie K w H kvs es) : DLie K w (upd H p o) kvs es :=
  ⟨Paired.mapP h.ents fun q e z => ⟨let ⟨kv, r1, r2⟩ := z.key; ⟨kv, r1, r2.keep fun a xs h => by
    rcases h with (h | ⟨od, h⟩) | h
    · exact .inl (.inl (by rw [upd_ne fun z => ?_]; exact h; rw [z, hp] at h; cases h))
    · exact .inl (.inr ⟨od, by rw [upd_ne fun z => ?_]; exact h; rw [z, hp] at h; cases h⟩)
    · exact .inr h⟩, z.hash, z.val⟩, h.nd, h.dp⟩
/-- dict(x) of what gives pairs; s: ahead of x, if x is a thing of its own -/
theorem dict_arg {T : String} {a : Addr} {fp wr : List Addr} {ps : List KP} {us : List (Value × Value)} {OK : Heap → Prop} {Q : VK} (hcalm : X.calm = true) (hu : X.A.units + 200 < cLine)
    (PA : PairArg X.prog X.w T a fp wr us.length (fun i k v => us[i]? = some (k, v)) OK) (I : L2.Inv X pins σ H s) (hs : ∀ b o, s.heap.get? b = some o → s1.heap.get? b = some o) (hsz : s.heap.objs.size ≤ s1.heap.objs.size) (ed : { s1 with heap := s.heap, toks := s.toks } = s)
    (ok : OK s1.heap) (hwr : ∀ b ∈ wr, s.heap.get? b = none) (hp : Paired (KPok X.K H) ps us) (hc : clsKs ps) (hd : ∀ q ∈ ps, q.1.depth ≤ 8) (hl : ps.length ≤ sizeLine)
    (q : ∀ p es ep, H p = none → DLie X.K X.w (upd H p (rawO p es ep)) (foldK ps) es → Q (.ref p) (upd H p (rawO p es ep))) :
    wpAny (model X.prog X.w) X.A (call (.type "dict") [.ref a]) (EP X pins σ Q) X.xe s1 := by
  have hul : us.length = ps.length := (Paired.length hp).symm
  have fin : ∀ (h' : Heap) (tk : Nat) (es : Array DictEntry) (ep : Nat), h'.DictRaw s1.heap.objs.size es ep → DLie X.K X.w H (foldK ps) es → (∀ b o, b ∉ wr → s1.heap.get? b = some o → h'.get? b = some o) → EP X pins σ Q (.ref s1.heap.objs.size) { s1 with heap := h', toks := tk } := by
    intro h' tk es ep hr hd' hk
    have k : ∀ b o, s.heap.get? b = some o → h'.get? b = some o := fun b o e => hk b o (fun z => by rw [hwr b z] at e; cases e) (hs b o e)
    have hb : (s1.heap.objs.size == sysModules) = false := beq_eq_false_iff_ne.mpr (Nat.ne_of_gt (Nat.lt_of_lt_of_le I.big hsz))
    have hz : es.size ≤ sizeLine := by
      rw [← hd'.len]
      have h9 := foldK_len ps []
      rw [List.length_nil, Nat.zero_add] at h9
      exact Nat.le_trans h9 hl
    have I2 := I.laid (t' := tk) (o := rawO s1.heap.objs.size es ep) k hsz (rawO_ok hr hb hz)
    have e2 : ({ s with heap := h', toks := tk } : Shared) = { s1 with heap := h', toks := tk } := by rw [← ed]
    rw [e2] at I2
    exact ⟨.ref s1.heap.objs.size, _, I2, rfl, q _ es ep (I.hok.fresh hsz) (dlie_upd (I.hok.fresh hsz) hd')⟩
  have hh := I.ok.hd hcalm
  have hn : us.length ≤ sizeLine := by rw [hul]; exact hl
  rcases hc with hb | hb
  · obtain ⟨kvs, hk, h⟩ := fold_byval (P := X.prog) (w := X.w) hp hb hd
    obtain ⟨r1, r2, r3⟩ := h [] [] .nil (fun p hp => by simp at hp) fun p hp => by simp at hp
    refine call_dict_pairs PA hh ok hk hn fun h' tk dd hkeep => ?_
    obtain ⟨es, ep, hr, hd'⟩ := from_k (K := X.K) (H := H) r2 r3 r1 dd
    exact fin h' tk es ep hr hd' hkeep
  · obtain ⟨xs, hk, hx, h⟩ := fold_tup (P := X.prog) (w := X.w) hp hb hd
    obtain ⟨r1, r3⟩ := h [] [] .nil fun p hp => by simp at hp
    refine call_dict_pairsH PA hh ?_ ok hk (fun h' hk x hx' => ?_) hn fun h' tk dd hkeep => ?_
    · show X.A.in1.in1.units + 8 < cLine
      have : X.A.in1.in1.units = X.A.units + 2 := rfl
      omega
    · have k : ∀ b o, s.heap.get? b = some o → h'.get? b = some o := fun b o e => hk b o (Nat.ne_of_lt (Heap.lt_size (hs b o e))) (fun z => by rw [hwr b z] at e; cases e) (hs b o e)
      have I2 : L2.Inv X pins σ H { s with heap := h' } := I.kept (t' := s.toks) k
      exact ⟨(hx x hx').1.is I2 rfl, (hx x hx').2⟩
    · obtain ⟨es, ep, hr, hd'⟩ := from_n (K := X.K) (H := H) r3 r1 dd
      exact fin h' tk es ep hr hd' hkeep
end
/-! ### .. of a list of pairs -/
section
variable {X : Cx}
def rDPairs (K : PySem.W.Frag) (w : World) : List V → Hp → VK → Prop := fun vs H Q => ∃ a xs, ∃ ps : List KP, vs = [.ref a] ∧ SqL K H a xs ∧ Paired (fun x (q : KP) => ∃ t, x = .ref t ∧ SqT K H t [q.2.1, q.2.2] ∧ NKv K H q.1 q.2.1) xs ps ∧ clsKs ps ∧ (∀ q ∈ ps, q.1.depth ≤ 8) ∧
  ∀ p es ep, H p = none → DLie K w (upd H p (rawO p es ep)) (foldK ps) es → Q (.ref p) (upd H p (rawO p es ep))
theorem pairs_at {pins : List (Addr × Obj)} {σ : L2.St} {H : Hp} {s : Shared} (I : L2.Inv X pins σ H s) : ∀ {xs : List V} {ps : List KP} {its : List Value}, Paired (fun x (q : KP) => ∃ t, x = .ref t ∧ SqT X.K H t [q.2.1, q.2.2] ∧ NKv X.K H q.1 q.2.1) xs ps → Vals xs its →
    ∃ us : List (Value × Value), ∃ ts : List Addr, Paired (KPok X.K H) ps us ∧ its = ts.map .ref ∧ Paired (fun (t : Addr) (u : Value × Value) => PairAt s.heap t u.1 u.2) ts us
  | _, _, _, .nil, .nil => ⟨[], [], .nil, rfl, .nil⟩
  | _, _, _, .cons ⟨t, e, h, n⟩ b, .cons r1 r2 => by
    obtain ⟨us, ts, h1, h2, h3⟩ := pairs_at I b r2
    subst e
    obtain ⟨it, rv, p1, hz⟩ := I.tuple h
    cases rv with
    | @cons _ u1 _ l ra rb =>
    cases rb with
    | @cons _ u2 _ l' rc rd =>
    cases rd
    cases r1
    exact ⟨(u1, u2) :: us, t :: ts, .cons ⟨n, ra, rc⟩ h1, by rw [h2]; rfl, .cons (.inl p1) h3⟩
theorem paired_get {α β : Type} {R : α → β → Prop} : ∀ {xs : List α} {ys : List β}, Paired R xs ys → ∀ {i : Nat} {y : β}, ys[i]? = some y → ∃ x, xs[i]? = some x ∧ R x y
  | _, _, .nil, _, _, e => by simp at e
  | _, _, .cons a b, 0, y, e => by simp at e; subst e; exact ⟨_, rfl, a⟩
  | _, _, .cons a b, i + 1, y, e => paired_get b e
theorem call_dPairs (hc : X.calm = true) (hu : X.A.units + 200 < cLine) : CallR X (.type "dict") (rDPairs X.K X.w) := by
  intro pins s σ H xs us Q I r ⟨a, ls, ps, e, hx, hp, hcl, hd, q⟩
  subst e
  obtain ⟨u, rfl, ru⟩ := r.one
  obtain rfl : u = .ref a := ru
  obtain ⟨its, rv, pl, hz⟩ := I.list hx
  obtain ⟨us, ts, h1, h2, h3⟩ := pairs_at I hp rv
  have hlen : its.toArray.size = us.length := by rw [List.size_toArray, h2, List.length_map]; exact Paired.length h3
  have hps : ps.length = us.length := Paired.length h1
  have eq : PairRel us = fun (i : Nat) k v => us[i]? = some (k, v) := rfl
  refine dict_arg hc hu (PairArg.list a its.toArray (fun j => ts.getD j 0) us) I (fun _ _ e => e) (Nat.le_refl _) rfl ⟨?_, hlen, fun j k v e => ?_⟩ (fun b hb => by simp at hb) h1 hcl hd (by rw [hps, ← hlen, List.size_toArray, ← rv.length]; exact hz) q
  · obtain ⟨o, n, ho, h5, h6, h7⟩ := pl
    exact ⟨o, n, ho, h5, h6, h7⟩
  · obtain ⟨t, et, pt⟩ := paired_get h3 e
    have eg : ts.getD j 0 = t := by rw [List.getD_eq_getElem?_getD, et]; rfl
    refine ⟨?_, by show PairAt _ (ts.getD j 0) _ _; rw [eg]; exact pt⟩
    show its.toArray[j]? = some (.ref (ts.getD j 0))
    rw [eg, h2]
    simp [et]
end
/-- the pairs of a list -/
def prsD : List PyData → Option (List (PyData × PyData))
  | [] => some []
  | .tuple [k, x] :: r => (prsD r).map ((k, x) :: ·)
  | _ => none
def dOf (l : List (PyData × PyData)) : Dic := l.foldl (fun acc p => putD acc p.1 p.2) []
def okPs (l : List (PyData × PyData)) : Bool := (l.all fun p => match nkD p.1 with
  | some k => decide (k.depth ≤ 8)
  | none => false) && ((l.all fun p => bvD p.1) || (l.all fun p => tpD p.1))
theorem dOf_it {G : Gx} {H : Hp} {as : As} : ∀ {l : List (PyData × PyData)} {ps : List KP}, Paired (fun (p : PyData × PyData) (q : KP) => nkD p.1 = some q.1 ∧ Dq G.K H as q.2.2 p.2) l ps → ∀ {a : Dic} {aN : List (NestedKey × V)}, Paired (fun (p : PyData × PyData) (q : NestedKey × V) => p.1 = q.1.data ∧ Dq G.K H as q.2 p.2) a aN →
    Paired (fun (p : PyData × PyData) (q : NestedKey × V) => p.1 = q.1.data ∧ Dq G.K H as q.2 p.2) (l.foldl (fun acc p => putD acc p.1 p.2) a) (ps.foldl (fun acc q => putK acc q.1 q.2.2) aN)
  | _, _, .nil, _, _, h => h
  | _, _, .cons a b, _, _, h => dOf_it b (put_it a.1 a.2 h)
/-- a new dict's end -/
theorem fin_dic {G : Gx} {H : Hp} {as : As} {st : List Cell} {E : XK} {Q : VK} {l : Dic} {kvs : List (NestedKey × V)} (rs : Rs G as st H) (h : Post G (RV G) H as E Q (.ok (.ref st.length) (st ++ [.dic false l]))) (it : Paired (fun (p : PyData × PyData) (q : NestedKey × V) => p.1 = q.1.data ∧ Dq G.K H as q.2 p.2) l kvs)
    (p : Addr) (es : Array DictEntry) (ep : Nat) (hp : H p = none) (d : DLie G.K G.w (upd H p (rawO p es ep)) kvs es) : Q (.ref p) (upd H p (rawO p es ep)) := by
  have g := Gr.add (o := rawO p es ep) rs hp
  refine h (as.add p) (.ref p) _ g (rs.add hp ⟨es, ep, kvs, by unfold LkOk; rw [if_neg Bool.false_ne_true]; exact upd_same, d, Paired.mapP it fun p q z => ⟨z.1, z.2.gr g⟩⟩) (.ref ?_)
  show (as.m ++ [p])[_]? = _
  rw [← rs.len]; simp
theorem prs_kp {K : PySem.W.Frag} {H : Hp} {as : As} : ∀ {l : List PyData} {ps : List (PyData × PyData)} {xs : List V}, prsD l = some ps → DqAll K H as xs l → (∀ p ∈ ps, ∃ k, nkD p.1 = some k) → ∃ qs : List KP, Paired (fun x (q : KP) => ∃ t, x = .ref t ∧ SqT K H t [q.2.1, q.2.2] ∧ NKv K H q.1 q.2.1) xs qs ∧
    Paired (fun (p : PyData × PyData) (q : KP) => nkD p.1 = some q.1 ∧ Dq K H as q.2.2 p.2) ps qs
  | [], _, _, e, .nil, _ => by cases e; exact ⟨[], .nil, .nil⟩
  | .tuple [k, x] :: r, _, _, e, .cons a b, h => by
    simp only [prsD, Option.map_eq_some_iff] at e
    obtain ⟨ps, e1, rfl⟩ := e
    obtain ⟨qs, h1, h2⟩ := prs_kp e1 b fun p hp => h p (List.mem_cons_of_mem _ hp)
    obtain ⟨k', hk⟩ := h (k, x) List.mem_cons_self
    cases a with
    | @tup t zs _ ht hq =>
    cases hq with
    | cons q1 q2 =>
    cases q2 with
    | cons q2 q3 =>
    cases q3
    exact ⟨(k', _, _) :: qs, .cons ⟨t, rfl, ht.sq, NKv.of q1 hk⟩ h1, .cons ⟨hk, q2⟩ h2⟩
theorem okPs_ok {K : PySem.W.Frag} {H : Hp} {as : As} {l : List (PyData × PyData)} (h : okPs l = true) : (∀ p ∈ l, ∃ k, nkD p.1 = some k) ∧ ∀ {qs : List KP}, Paired (fun (p : PyData × PyData) (q : KP) => nkD p.1 = some q.1 ∧ Dq K H as q.2.2 p.2) l qs → clsKs qs ∧ ∀ q ∈ qs, q.1.depth ≤ 8 := by
  unfold okPs at h
  rw [Bool.and_eq_true, Bool.or_eq_true] at h
  obtain ⟨h1, h2⟩ := h
  have h0 := h1
  have h1 := List.all_eq_true.mp h1
  refine ⟨fun p hp => ?_, fun {qs} r => ⟨?_, ?_⟩⟩
  · have := h1 p hp
    cases e : nkD p.1 with
    | none => rw [e] at this; cases this
    | some k => exact ⟨k, rfl⟩
  · have back : ∀ {l : List (PyData × PyData)} {qs : List KP}, Paired (fun (p : PyData × PyData) (q : KP) => nkD p.1 = some q.1 ∧ Dq K H as q.2.2 p.2) l qs → ∀ q ∈ qs, ∃ p ∈ l, nkD p.1 = some q.1 := by
      intro l qs r
      induction r with
      | nil => exact fun q hq => by simp at hq
      | cons a b ih =>
        intro q hq
        rcases List.mem_cons.mp hq with z | z
        · subst z; exact ⟨_, List.mem_cons_self, a.1⟩
        · obtain ⟨p, hp, e⟩ := ih q z; exact ⟨p, List.mem_cons_of_mem _ hp, e⟩
    rcases h2 with h2 | h2
    · refine .inl fun q hq => ?_
      obtain ⟨p, hp, e⟩ := back r q hq
      have := List.all_eq_true.mp h2 p hp
      rw [← nkD_data e, bv_data] at this
      exact this
    · refine .inr fun q hq => ?_
      obtain ⟨p, hp, e⟩ := back r q hq
      have := List.all_eq_true.mp h2 p hp
      rw [← nkD_data e, tp_data] at this
      exact this
  · clear h2 h1
    induction r with
    | nil => exact fun q hq => by simp at hq
    | @cons p q ps qs a b ih =>
      intro z hz
      rcases List.mem_cons.mp hz with e | e
      · subst e
        have := List.all_eq_true.mp h0 p List.mem_cons_self
        rw [a.1] at this
        exact of_decide_eq_true this
      · exact ih (List.all_eq_true.mpr fun p hp => List.all_eq_true.mp h0 p (List.mem_cons_of_mem _ hp)) (List.all_eq_true.mpr fun p hp => List.all_eq_true.mp h0 p (List.mem_cons_of_mem _ hp)) z e
def dicEnd (l : List (PyData × PyData)) : Mo D := fun st => if okPs l = true then .ok (.ref st.length) (st ++ [.dic false (dOf l)]) else .bad
def dpairsO : List D → Mo D := fun ds st => match ds with
  | [d] => (rd d st).bind fun x st1 => match x with
    | .list l => match prsD l with
      | some ps => dicEnd ps st1
      | none => .bad
    | _ => .bad
  | _ => .bad
theorem dpairsO_op {G : Gx} : OpN G (rDPairs G.K G.w) dpairsO := by
  intro H as st xs ds E Q rs ra hp
  unfold dpairsO at hp
  split at hp
  · rename_i d
    cases ra with
    | @cons _ _ v _ ra rb =>
    cases rb
    obtain ⟨x, e, _, hp⟩ := rd_ok rs ra hp
    cases x with
    | list l =>
      have hp : Post G (RV G) H as E Q (match prsD l with
        | some ps => dicEnd ps st
        | none => .bad) := hp
      cases el : prsD l with
      | none => rw [el] at hp; exact hp.elim
      | some ps =>
        rw [el] at hp
        obtain ⟨a, vs, ev, hs, dq⟩ := seq_ok rs ra e
        have hp : Post G (RV G) H as E Q (if okPs ps = true then .ok (.ref st.length) (st ++ [.dic false (dOf ps)]) else .bad) := hp
        split at hp
        · rename_i ho
          obtain ⟨h1, h2⟩ := okPs_ok (K := G.K) (H := H) (as := as) ho
          obtain ⟨qs, h3, h4⟩ := prs_kp el dq h1
          obtain ⟨h5, h6⟩ := h2 h4
          exact ⟨a, vs, qs, by rw [ev], hs, h3, h5, h6, fun p es ep hn hd => fin_dic rs hp (dOf_it h4 .nil) p es ep hn hd⟩
        · exact hp.elim
    | _ => exact hp.elim
  · exact hp.elim
end Zp

set_option Elab.async false
set_option linter.all false
set_option autoImplicit false
set_option maxRecDepth 100000
set_option maxHeartbeats 4000000
/-! zip of two tuples as dict()'s argument: the pair it gave is still held -/
namespace RZ
open PySem
section
variable {prog : Program} {w : World} {A : Around} {E : Value → Shared → Prop} {s : Shared} {z TI TO T i1 i2 l1 l2 : Addr} {f : Bool} {oT : Obj} {k1 k2 : Nat} {xs ys : Array Value}
/-- the zip z walks the tuples l1, l2; it holds T, the last pair -/
structure Hld (h : Heap) (z TI TO T i1 i2 l1 l2 : Addr) (f : Bool) (k1 k2 : Nat) (xs ys : Array Value) : Prop where
  hz : IsZipHeld h z TI TO T f
  hTI : IsPair h TI (.ref i1) (.ref i2)
  h1 : h.IsTupleIter i1 l1 k1
  h2 : h.IsTupleIter i2 l2 k2
  hl1 : h.IsTuple l1 xs
  hl2 : h.IsTuple l2 ys
/-- up to the draws -/
theorem held_draws {R : PySem.Fin → Shared → Prop} (D : ZipApart z TI TO i1 i2 l1 l2) (Z : Hld s.heap z TI TO T i1 i2 l1 l2 f k1 k2 xs ys) (hT : s.heap.get? T = some oT)
    (item : ∀ x y h', xs[k1]? = some x → ys[k2]? = some y → Hld h' z TI TO T i1 i2 l1 l2 true (k1 + 1) (k2 + 1) xs ys → h'.objs.size = s.heap.objs.size → (∀ c o, c ≠ z → c ≠ i1 → c ≠ i2 → s.heap.get? c = some o → h'.get? c = some o) →
      R (.done (.ret (.ref s.heap.objs.size))) { s with heap := h'.push { cls := .type "tuple", data := .seq #[x, y] } })
    (stop : (xs[k1]? = none ∨ ys[k2]? = none) → A.handled = none ∧ ∀ h' e, (∀ c o, c ≠ z → c ≠ i1 → c ≠ i2 → s.heap.get? c = some o → h'.get? c = some o) → (∃ o, h'.get? e = some o ∧ o.cls = .type "StopIteration") → E (.ref e) { s with heap := h' }) :
    wpAny (model prog w) A (Builtin.«zip.__next__» ⟨[.ref z], []⟩) R E s := by
  show wpAny _ _ (field (.ref z) 2 >>= _) _ _ _
  refine wpAny_bind (wpAny_field Z.hz rfl (x := .bool false) rfl ?_)
  show wpAny _ _ (field (.ref z) 3 >>= _) _ _ _
  refine wpAny_bind (wpAny_field Z.hz rfl (x := .ref TI) rfl (wpAny_bind (wpAny_seqItems Z.hTI rfl ?_)))
  show wpAny _ _ (Builtin.SmallTypes.ownedTupleIsFree (.ref z) >>= _) _ _ _
  refine wpAny_bind (wpAny_tupleHeld_zip Z.hz hT fun h₁ hz₁ hs₁ => ?_)
  have a1 : h₁.IsTupleIter i1 l1 k1 := Z.h1.extBut hs₁.extBut D.i1z
  have a2 : h₁.IsTupleIter i2 l2 k2 := Z.h2.extBut hs₁.extBut D.i2z
  have b1 : h₁.IsTuple l1 xs := Z.hl1.extBut hs₁.extBut D.l1z
  have b2 : h₁.IsTuple l2 ys := Z.hl2.extBut hs₁.extBut D.l2z
  simp only [Bool.false_eq_true, if_false]
  refine wpAny_bind ?_
  rw [← Array.forIn_toList]
  simp only [List.forIn_cons, List.forIn_nil]
  refine wpAny_bind (wpAny_bind (wpAny_holding ?_))
  show wpAny _ _ (Builtin.SmallTypes.nextOf (.ref i1) >>= _) _ _ _
  cases hx : xs[k1]? with
  | none =>
    obtain ⟨hh, st⟩ := stop (.inl hx)
    exact wpAny_bind (nextOf_tuple_end (s := { s with heap := h₁ }) hh a1 b1 hx fun h₂ e hs₂ he => st h₂ e (fun c o c1 c2 _ x => hs₂ _ _ c2 (hs₁.extBut _ _ c1 x)) he)
  | some x =>
    refine wpAny_bind (nextOf_tuple_item (s := { s with heap := h₁ }) a1 b1 hx fun h₂ h1₂ hs₂ => wpAny_pure (wpAny_pure (wpAny_bind (wpAny_bind (wpAny_holding ?_)))))
    have a2' : h₂.IsTupleIter i2 l2 k2 := a2.extBut hs₂.extBut D.i12.symm
    have b2' : h₂.IsTuple l2 ys := b2.extBut hs₂.extBut D.l2i1
    show wpAny _ _ (Builtin.SmallTypes.nextOf (.ref i2) >>= _) _ _ _
    cases hy : ys[k2]? with
    | none =>
      obtain ⟨hh, st⟩ := stop (.inr hy)
      exact wpAny_bind (nextOf_tuple_end (s := { s with heap := h₂ }) hh a2' b2' hy fun h₃ e hs₃ he => st h₃ e (fun c o c1 c2 c3 x => hs₃ _ _ c3 (hs₂.extBut _ _ c2 (hs₁.extBut _ _ c1 x))) he)
    | some y =>
      refine wpAny_bind (nextOf_tuple_item (s := { s with heap := h₂ }) a2' b2' hy fun h₃ h2₃ hs₃ => wpAny_pure (wpAny_pure (wpAny_pure ?_)))
      show wpAny _ _ (newTuple [x, y] >>= _) _ _ _
      refine wpAny_bind (wpAny_newTuple (wpAny_pure ?_))
      have hsz : h₃.objs.size = s.heap.objs.size := by rw [hs₃.1, hs₂.1, hs₁.1]
      have far : ∀ c o, c ≠ i1 → c ≠ i2 → h₁.get? c = some o → h₃.get? c = some o := fun c o c2 c3 e => hs₃.extBut _ _ c3 (hs₂.extBut _ _ c2 e)
      have g := item x y h₃ hx hy ⟨far _ _ D.i1z.symm D.i2z.symm hz₁, far _ _ D.TIi1 D.TIi2 (hs₁.extBut _ _ D.TIz Z.hTI), h1₂.extBut hs₃.extBut D.i12, h2₃,
        b1.at fun o e => far _ o D.l1i1 D.l1i2 e, b2.at fun o e => far _ o D.l2i1 D.l2i2 e⟩ hsz fun c o c1 c2 c3 e => far c o c2 c3 (hs₁.extBut _ _ c1 e)
      rw [← hsz] at g
      exact g
theorem held_next (D : ZipApart z TI TO i1 i2 l1 l2) (Z : Hld s.heap z TI TO T i1 i2 l1 l2 f k1 k2 xs ys) (hT : s.heap.get? T = some oT) {Q : Option Value → Shared → Prop}
    (item : ∀ x y h', xs[k1]? = some x → ys[k2]? = some y → Hld h' z TI TO T i1 i2 l1 l2 true (k1 + 1) (k2 + 1) xs ys → h'.objs.size = s.heap.objs.size → (∀ c o, c ≠ z → c ≠ i1 → c ≠ i2 → s.heap.get? c = some o → h'.get? c = some o) →
      Q (some (.ref s.heap.objs.size)) { s with heap := h'.push { cls := .type "tuple", data := .seq #[x, y] } })
    (stop : (xs[k1]? = none ∨ ys[k2]? = none) → A.handled = none ∧ ∀ h', (∀ c o, c ≠ z → c ≠ i1 → c ≠ i2 → s.heap.get? c = some o → h'.get? c = some o) → Q none { s with heap := h' }) : wpAny (model prog w) A (pyNext (.ref z)) Q E s := by
  have hTy : s.TypeIs (.ref z) "zip" := ⟨_, Z.hz, rfl⟩
  unfold pyNext
  refine wpAny_bind (wpAny_attempt (wpAny_callSpecial?_slot (name := Str.ofString "__next__") hTy F.slot_zip_next
    (wpAny_call_entry F.slot_zip_next hTy F.entry_zip_next (held_draws D Z hT (fun x y h' e1 e2 Z' hs hk => ⟨_, rfl, wpAny_pure (item x y h' e1 e2 Z' hs hk)⟩) fun hn => ?_) (F.args_zip_next_1 _))))
  obtain ⟨hh, st⟩ := stop hn
  refine ⟨hh, fun h' e hk he => ?_⟩
  obtain ⟨o, ho, hc⟩ := he
  exact wpAny_bind (wpAny_isInstance (T := "StopIteration") (b := true) ⟨o, ho, hc⟩ isSubtype_stop (wpAny_pure (st _ hk)))
end
section
variable {prog : Program} {w : World}
theorem pairArg_zipT (z TI TO i1 i2 l1 l2 : Addr) (D : ZipApart z TI TO i1 i2 l1 l2) (xs ys : Array Value) :
    PairArg prog w "zip" z [z, TI, TO, i1, i2, l1, l2] [z, TO, i1, i2] (min xs.size ys.size) (fun i k v => xs[i]? = some k ∧ ys[i]? = some v)
      (fun h => IsZip h z TI TO .none ∧ IsPair h TI (.ref i1) (.ref i2) ∧ (∃ a b, IsPair h TO a b) ∧ h.IsTupleIter i1 l1 0 ∧ h.IsTupleIter i2 l2 0 ∧ h.IsTuple l1 xs ∧ h.IsTuple l2 ys) where
  type s ok := ⟨_, ok.1, rfl⟩
  notDict := by decide
  keep h h' ok hk := by
    obtain ⟨hz, hTI, ⟨a, b, hTO⟩, h1, h2, hl1, hl2⟩ := ok
    refine ⟨hk _ _ hz, hk _ _ hTI, ⟨a, b, hk _ _ hTO⟩, ?_, ?_, ?_, ?_⟩
    · exact h1.at fun o => hk _ o
    · exact h2.at fun o => hk _ o
    · exact hl1.at fun o => hk _ o
    · exact hl2.at fun o => hk _ o
  there h ok b hb := by
    obtain ⟨hz, hTI, ⟨a, c, hTO⟩, ⟨o1, h1, _⟩, ⟨o2, h2, _⟩, ⟨o3, hl1, _⟩, ⟨o4, hl2, _⟩⟩ := ok
    have hb : b = z ∨ b = TI ∨ b = TO ∨ b = i1 ∨ b = i2 ∨ b = l1 ∨ b = l2 := by simpa using hb
    rcases hb with e | e | e | e | e | e | e <;> subst e
    · exact ⟨_, hz⟩
    · exact ⟨_, hTI⟩
    · exact ⟨_, hTO⟩
    · exact ⟨_, h1⟩
    · exact ⟨_, h2⟩
    · exact ⟨_, hl1⟩
    · exact ⟨_, hl2⟩
  sub b hb := by
    have hb : b = z ∨ b = TO ∨ b = i1 ∨ b = i2 := by simpa using hb
    rcases hb with e | e | e | e <;> subst e <;> simp
  noKeys A s Q E hA ok h := getAttrOr_miss_zip ok.1 rfl rfl rfl zip_no_keys (by decide +kernel) hA h
  iter A s d Q E hA ok hd hdf h := by
    obtain ⟨hz, hTI, ⟨a, b, hTO⟩, h1, h2, hl1, hl2⟩ := ok
    have nd : d ≠ z ∧ d ≠ TI ∧ d ≠ TO ∧ d ≠ i1 ∧ d ≠ i2 ∧ d ≠ l1 ∧ d ≠ l2 := by simpa using hdf
    obtain ⟨dz, dTI, dTO, di1, di2, dl1, dl2⟩ := nd
    let St : Nat → Heap → Prop := fun i h => (IsZip h z TI TO .none ∧ IsPair h TI (.ref i1) (.ref i2) ∧ (∃ a b, IsPair h TO a b) ∧ h.IsTupleIter i1 l1 i ∧ h.IsTupleIter i2 l2 i ∧ h.IsTuple l1 xs ∧ h.IsTuple l2 ys) ∨
      ∃ T f oT, Hld h z TI TO T i1 i2 l1 l2 f i i xs ys ∧ h.get? T = some oT ∧ T ≠ z ∧ T ≠ i1 ∧ T ≠ i2 ∧ T ≠ d
    have off : ∀ {c : Addr}, c ∉ ([z, TO, i1, i2] : List Addr) → c ≠ z ∧ c ≠ TO ∧ c ≠ i1 ∧ c ≠ i2 := fun hc => by simpa using hc
    have src : PairSrc prog w A z d [z, TO, i1, i2] (min xs.size ys.size) (fun i k v => xs[i]? = some k ∧ ys[i]? = some v) St := {
      off := fun hm => by
        have hm : d = z ∨ d = TO ∨ d = i1 ∨ d = i2 := by simpa using hm
        rcases hm with e | e | e | e
        · exact dz e
        · exact dTO e
        · exact di1 e
        · exact di2 e
      frame := fun i h₁ h₂ st hk => by
        rcases st with ⟨g1, g2, ⟨a, b, g3⟩, g4, g5, g6, g7⟩ | ⟨T, f, oT, Z, hT, r1, r2, r3, r4⟩
        · exact .inl ⟨hk _ _ dz.symm g1, hk _ _ dTI.symm g2, ⟨a, b, hk _ _ dTO.symm g3⟩, g4.at fun o => hk _ o di1.symm, g5.at fun o => hk _ o di2.symm, g6.at fun o => hk _ o dl1.symm, g7.at fun o => hk _ o dl2.symm⟩
        · exact .inr ⟨T, f, oT, ⟨hk _ _ dz.symm Z.hz, hk _ _ dTI.symm Z.hTI, Z.h1.at fun o => hk _ o di1.symm, Z.h2.at fun o => hk _ o di2.symm, Z.hl1.at fun o => hk _ o dl1.symm, Z.hl2.at fun o => hk _ o dl2.symm⟩, hk _ _ r4 hT, r1, r2, r3, r4⟩
      item := fun i s₁ Q₁ E₁ hi st hds hQ => by
        have lt : ∀ {c o}, s₁.heap.get? c = some o → s₁.heap.objs.size ≠ c := fun e => Nat.ne_of_gt (Heap.lt_size e)
        rcases st with ⟨g1, g2, ⟨a, b, g3⟩, g4, g5, g6, g7⟩ | ⟨T, f, oT, Z, hT, r1, r2, r3, r4⟩
        · have ex : xs[i]? = some xs[i] := Array.getElem?_eq_getElem (by omega)
          have ey : ys[i]? = some ys[i] := Array.getElem?_eq_getElem (by omega)
          have n1 : s₁.heap.objs.size ≠ i1 := let ⟨_, e, _⟩ := g4; lt e
          have n2 : s₁.heap.objs.size ≠ i2 := let ⟨_, e, _⟩ := g5; lt e
          refine pyNext_zipT_item D g1 g2 g3 g4 g5 g6 g7 ex ey fun h' a1 a2 a3 a4 a5 a6 hk => ?_
          refine hQ s₁.heap.objs.size _ _ h' s₁.toks ⟨ex, ey⟩ (.inl ⟨_, a5, rfl, _, rfl⟩) (.inr ⟨s₁.heap.objs.size, false, _, ⟨a1, hk _ _ D.TIz D.TITO D.TIi1 D.TIi2 g2, a3, a4, ?_, ?_⟩, a5, lt g1, n1, n2, Nat.ne_of_gt hds⟩) fun c o hc e => ?_
          · exact g6.at fun o => hk _ o D.l1z D.l1TO D.l1i1 D.l1i2
          · exact g7.at fun o => hk _ o D.l2z D.l2TO D.l2i1 D.l2i2
          · obtain ⟨c1, c2, c3, c4⟩ := off hc
            exact hk c o c1 c2 c3 c4 e
        · have n1 : s₁.heap.objs.size ≠ i1 := let ⟨_, e, _⟩ := Z.h1; lt e
          have n2 : s₁.heap.objs.size ≠ i2 := let ⟨_, e, _⟩ := Z.h2; lt e
          refine held_next D Z hT (fun x y h' ex ey Z' hs hk => ?_) fun hn => ?_
          · have up : ∀ c o, h'.get? c = some o → (h'.push { cls := .type "tuple", data := .seq #[x, y] }).get? c = some o := fun c o e => Heap.get?_push_of_some _ e
            have nw : (h'.push { cls := .type "tuple", data := .seq #[x, y] }).get? s₁.heap.objs.size = some { cls := .type "tuple", data := .seq #[x, y] } := by rw [← hs]; exact Heap.get?_push_size _ rfl
            refine hQ s₁.heap.objs.size x y _ s₁.toks ⟨ex, ey⟩ (.inl ⟨_, nw, rfl, _, rfl⟩) (.inr ⟨T, true, oT, ⟨up _ _ Z'.hz, up _ _ Z'.hTI, Z'.h1.at fun o => up _ o, Z'.h2.at fun o => up _ o, Z'.hl1.at fun o => up _ o, Z'.hl2.at fun o => up _ o⟩, up _ _ (hk _ _ r1 r2 r3 hT), r1, r2, r3, r4⟩) fun c o hc e => ?_
            obtain ⟨c1, c2, c3, c4⟩ := off hc
            exact up _ _ (hk c o c1 c3 c4 e)
          · rcases hn with hn | hn
            · have := Array.getElem?_eq_none_iff.mp hn; omega
            · have := Array.getElem?_eq_none_iff.mp hn; omega
      done := fun s₁ Q₁ E₁ st hQ => by
        have hend : xs[min xs.size ys.size]? = none ∨ ys[min xs.size ys.size]? = none := by
          by_cases h : xs.size ≤ ys.size
          · exact .inl (Array.getElem?_eq_none (by omega))
          · exact .inr (Array.getElem?_eq_none (by omega))
        rcases st with ⟨g1, g2, ⟨a, b, g3⟩, g4, g5, g6, g7⟩ | ⟨T, f, oT, Z, hT, r1, r2, r3, r4⟩
        · refine pyNext_zipT_end hA D g1 g2 g3 g4 g5 g6 g7 hend fun h' hk => hQ h' s₁.toks fun c o hc e => ?_
          obtain ⟨c1, c2, c3, c4⟩ := off hc
          exact hk c o c1 c2 c3 c4 e
        · refine held_next D Z hT (fun x y h' ex ey => ?_) fun _ => ⟨hA, fun h' hk => hQ h' s₁.toks fun c o hc e => ?_⟩
          · rcases hend with q | q
            · rw [q] at ex; cases ex
            · rw [q] at ey; cases ey
          · obtain ⟨c1, c2, c3, c4⟩ := off hc
            exact hk c o c1 c3 c4 e }
    exact wpAny_pyIter_zip hz (h z _ St s.heap s.toks src (.inl ⟨hz, hTI, ⟨a, b, hTO⟩, h1, h2, hl1, hl2⟩) (fun _ _ e => e) fun b hb => .inl hb)
end
end RZ

set_option Elab.async false
set_option linter.all false
set_option autoImplicit false
set_option maxRecDepth 100000
set_option maxHeartbeats 4000000
namespace Zp
open PySem PySem.Spec PyProof.Rows L2
/-! ### dict(zip(a, b)) -/
def rDZip (K : PySem.W.Frag) (w : World) : List V → Hp → VK → Prop := fun vs H Q => ∃ a b xs ys, ∃ ps : List KP, vs = [.ref a, .ref b] ∧ ((SqL K H a xs ∧ SqL K H b ys) ∨ (SqT K H a xs ∧ SqT K H b ys)) ∧ Paired (fun (x : V × V) (q : KP) => x = (q.2.1, q.2.2) ∧ NKv K H q.1 q.2.1) (xs.zip ys) ps ∧ clsKs ps ∧ (∀ q ∈ ps, q.1.depth ≤ 8) ∧
  ∀ p es ep, H p = none → DLie K w (upd H p (rawO p es ep)) (foldK ps) es → Q (.ref p) (upd H p (rawO p es ep))
theorem zip_us {K : PySem.W.Frag} {H : Hp} : ∀ {xs ys : List V} {ps : List KP} {its jts : List Value}, Paired (fun (x : V × V) (q : KP) => x = (q.2.1, q.2.2) ∧ NKv K H q.1 q.2.1) (xs.zip ys) ps → Vals xs its → Vals ys jts → Paired (KPok K H) ps (its.zip jts)
  | [], _, _, _, _, h, .nil, _ => by cases h; exact .nil
  | _ :: _, [], _, _, _, h, .cons _ _, .nil => by cases h; exact .nil
  | x :: xs, y :: ys, _, _, _, h, .cons a b, .cons c d => by
    rw [List.zip_cons_cons] at h
    cases h with
    | cons h1 h2 =>
      obtain ⟨e, n⟩ := h1
      obtain ⟨rfl, rfl⟩ := Prod.mk.inj e
      rw [List.zip_cons_cons]
      exact .cons ⟨n, a, c⟩ (zip_us h2 b d)
theorem zip_get {its jts : List Value} {i : Nat} {k v : Value} (h1 : its.toArray[i]? = some k) (h2 : jts.toArray[i]? = some v) : (its.zip jts)[i]? = some (k, v) := by
  rw [List.getElem?_toArray] at h1 h2
  rw [List.getElem?_zip_eq_some]
  exact ⟨h1, h2⟩
theorem PairArg.rel {P : Program} {w : World} {T : String} {a : Addr} {fp wr : List Addr} {n m : Nat} {R R' : Nat → Value → Value → Prop} {OK : Heap → Prop} (h : PairArg P w T a fp wr n R OK) (e : n = m) (hr : ∀ i k v, R i k v → R' i k v) : PairArg P w T a fp wr m R' OK where
  type := h.type
  notDict := h.notDict
  keep := h.keep
  there := h.there
  sub := h.sub
  noKeys := h.noKeys
  iter A s d Q E hA ok hd hdf k := h.iter A s d Q E hA ok hd hdf fun I wr' St h' tk src => by
    subst e
    exact k I wr' St h' tk ⟨src.off, src.frame, fun i s Q E hi st hds hQ => src.item i s Q E hi st hds fun T k v h' tk r => hQ T k v h' tk (hr _ _ _ r), src.done⟩
section
variable {X : Cx}
def tDZip (K : PySem.W.Frag) (w : World) (ta : TA) : TE := fun σ H Q => ta σ H fun vs H1 => rDZip K w vs H1 Q
theorem pe_dzip {e e2 : Expr} {ta : TA} {p p2 pos pos2 : Pos} (hc : X.calm = true) (hu : X.A.units + 200 < cLine) (hg : Gl X "dict") (hm : X.mg "dict" = none) (hg2 : Gl X "zip") (hm2 : X.mg "zip" = none) (ha : PA X [e, e2] ta)
    (hs : starEach [e, e2] X.env = (false, eval e X.env) :: starEach [e2] X.env := by rfl) (hpl : (backTo pos2 (starEach [e2] X.env)).any (·.1) = false := by rfl)
    (hs2 : starEach [.Call (.Name "zip" p2) [e, e2] [] pos2] X.env = (false, eval (.Call (.Name "zip" p2) [e, e2] [] pos2) X.env) :: starEach [] X.env := by rfl) :
    PE X (.Call (.Name "dict" p) [.Call (.Name "zip" p2) [e, e2] [] pos2] [] pos) (tDZip X.K X.w ta) := by
  refine ⟨fun pins s σ H Q I h => ?_⟩
  refine Call_ (ld_blt I hg hm (show bootBuiltins "dict" = some (.type "dict") from rfl) (PyProof.Rows.callWith_type1 (args_cons (Call_ (ld_blt I hg2 hm2 PyProof.Rows.boot_zip (PyProof.Rows.callWith_type1 (thn (ha.run pos2 pins s σ H _ I h) fun us s1 ⟨vs, H1, I1, r1, q1⟩ => ?_) hs hpl))) hs2) hs2 rfl))
  obtain ⟨a, b, xs, ys, ps, ex, hq, hps, hcl, hd, q⟩ := q1
  subst ex
  cases r1 with
  | cons r rr =>
  cases rr with
  | cons r' rr =>
  cases rr
  obtain rfl : _ = Value.ref a := r
  obtain rfl : _ = Value.ref b := r'
  have wr : ∀ c ∈ [s1.heap.objs.size + 4, s1.heap.objs.size + 3, s1.heap.objs.size, s1.heap.objs.size + 1], s1.heap.get? c = none := fun c hc => by
    cases e : s1.heap.get? c with
    | none => rfl
    | some o =>
      have hlt := Heap.lt_size e
      have hle : s1.heap.objs.size ≤ c := by
        rcases List.mem_cons.mp hc with z | hc
        · rw [z]; exact Nat.le_add_right _ _
        rcases List.mem_cons.mp hc with z | hc
        · rw [z]; exact Nat.le_add_right _ _
        rcases List.mem_cons.mp hc with z | hc
        · rw [z]; exact Nat.le_refl _
        rw [List.mem_singleton.mp hc]; exact Nat.le_add_right _ _
      exact absurd hlt (Nat.not_lt.mpr hle)
  rcases hq with ⟨hqx, hqy⟩ | ⟨hqx, hqy⟩
  · obtain ⟨its, rv, p1, z1⟩ := I1.list hqx
    obtain ⟨its2, rv2, p2, z2⟩ := I1.list hqy
    have hz := zip_us hps rv rv2
    have hl : min its.toArray.size its2.toArray.size = (its.zip its2).length := by simp
    have hln : ps.length ≤ sizeLine := by
      rw [Paired.length hz, List.length_zip]
      have := rv.length
      omega
    refine call_zip_2 p1.isList p2.isList fun h' hz' hTI hTO h1 h2 hsz hk => args_nil ?_
    refine dict_arg (s := s1) hc hu (PairArg.rel (PairArg.zip _ _ _ _ _ _ _ (PySem.W.ktu_apart s1.heap.objs.size a b p1.lt p2.lt) its.toArray its2.toArray) hl fun i k v ⟨e1, e2⟩ => zip_get e1 e2) I1 hk (by show _ ≤ h'.objs.size; omega) rfl ?_ wr hz hcl hd hln q
    exact ⟨hz', hTI, ⟨_, _, hTO⟩, h1, h2, p1.isList.at fun o => hk _ o, p2.isList.at fun o => hk _ o⟩
  · obtain ⟨its, rv, p1, z1⟩ := I1.tuple hqx
    obtain ⟨its2, rv2, p2, z2⟩ := I1.tuple hqy
    obtain ⟨o1, ho1, _⟩ := id p1
    obtain ⟨o2, ho2, _⟩ := id p2
    have hz := zip_us hps rv rv2
    have hl : min its.toArray.size its2.toArray.size = (its.zip its2).length := by simp
    have hln : ps.length ≤ sizeLine := by
      rw [Paired.length hz, List.length_zip]
      have := rv.length
      omega
    have t1 : s1.heap.IsTuple a its.toArray := p1
    have t2 : s1.heap.IsTuple b its2.toArray := p2
    refine RZ.call_zipT t1 t2 fun h' hz' hTI hTO h1 h2 hsz hk => args_nil ?_
    refine dict_arg (s := s1) hc hu (PairArg.rel (RZ.pairArg_zipT _ _ _ _ _ _ _ (PySem.W.ktu_apart s1.heap.objs.size a b (Heap.lt_size ho1) (Heap.lt_size ho2)) its.toArray its2.toArray) hl fun i k v ⟨e1, e2⟩ => zip_get e1 e2) I1 hk (by show _ ≤ h'.objs.size; omega) rfl ?_ wr hz hcl hd hln q
    exact ⟨hz', hTI, ⟨_, _, hTO⟩, h1, h2, t1.at fun o => hk _ o, t2.at fun o => hk _ o⟩
end
/-- a list's items, a tuple's -/
def seqB : D → List Cell → Option (Bool × List PyData)
  | .dat (.list l), _ => some (false, l)
  | .dat (.tuple l), _ => some (true, l)
  | .ref n, st => match st[n]? with
    | some (.lst l) => some (false, l)
    | _ => none
  | _, _ => none
theorem seqB_ok {G : Gx} {H : Hp} {as : As} {st : List Cell} {d : D} {v : V} {t : Bool} {l : List PyData} (rs : Rs G as st H) (r : RV G H as d v) (e : seqB d st = some (t, l)) : ∃ a xs, v = .ref a ∧ (if t = true then SqT G.K H a xs else SqL G.K H a xs) ∧ DqAll G.K H as xs l := by
  unfold seqB at e
  split at e
  · cases e
    cases r with
    | dat r => cases r with
      | lst h q => exact ⟨_, _, rfl, by rw [if_neg Bool.false_ne_true]; exact h.sq, q⟩
  · cases e
    cases r with
    | dat r => cases r with
      | tup h q => exact ⟨_, _, rfl, by rw [if_pos rfl]; exact h.sq, q⟩
  · rename_i n
    cases es : st[n]? with
    | none => rw [es] at e; cases e
    | some c =>
      rw [es] at e
      cases c with
      | lst l' =>
        cases e
        cases r with
        | ref ea =>
          obtain ⟨vs, h1, h2⟩ := rs.cell _ _ _ ea es
          exact ⟨_, _, rfl, by rw [if_neg Bool.false_ne_true]; exact .inl (.inl h1), h2⟩
      | _ => cases e
  · cases e
theorem zip_kp {K : PySem.W.Frag} {H : Hp} {as : As} : ∀ {l m : List PyData} {xs ys : List V}, DqAll K H as xs l → DqAll K H as ys m → (∀ p ∈ l.zip m, ∃ k, nkD p.1 = some k) → ∃ qs : List KP, Paired (fun (x : V × V) (q : KP) => x = (q.2.1, q.2.2) ∧ NKv K H q.1 q.2.1) (xs.zip ys) qs ∧
    Paired (fun (p : PyData × PyData) (q : KP) => nkD p.1 = some q.1 ∧ Dq K H as q.2.2 p.2) (l.zip m) qs
  | _, _, _, _, .nil, _, _ => ⟨[], .nil, .nil⟩
  | _, _, _, _, .cons _ _, .nil, _ => ⟨[], .nil, .nil⟩
  | _, _, _, _, .cons (v := v) (d := d) a b, .cons (v := u) (d := e) c f, h => by
    rw [List.zip_cons_cons] at h
    obtain ⟨qs, h1, h2⟩ := zip_kp b f fun p hp => h p (List.mem_cons_of_mem _ hp)
    obtain ⟨k, hk⟩ := h _ List.mem_cons_self
    exact ⟨(k, v, u) :: qs, .cons ⟨rfl, NKv.of a hk⟩ h1, .cons ⟨hk, c⟩ h2⟩
def dzipO : List D → Mo D := fun ds st => match ds with
  | [d, e] => match seqB d st, seqB e st with
    | some (t, l), some (u, m) => if t = u then dicEnd (l.zip m) st else .bad
    | _, _ => .bad
  | _ => .bad
theorem dzipO_op {G : Gx} : OpN G (rDZip G.K G.w) dzipO := by
  intro H as st xs ds E Q rs ra hp
  unfold dzipO at hp
  split at hp
  · rename_i d e
    cases ra with
    | @cons _ _ v _ ra rb =>
    cases rb with
    | @cons _ _ u _ rb rc =>
    cases rc
    split at hp
    · rename_i t l u' m e1 e2
      split at hp
      · rename_i ht
        subst ht
        obtain ⟨a, vs, ev, hs, dq⟩ := seqB_ok rs ra e1
        obtain ⟨b, us, eu, hs2, dq2⟩ := seqB_ok rs rb e2
        have hp : Post G (RV G) H as E Q (if okPs (l.zip m) = true then .ok (.ref st.length) (st ++ [.dic false (dOf (l.zip m))]) else .bad) := hp
        split at hp
        · rename_i ho
          obtain ⟨h1, h2⟩ := okPs_ok (K := G.K) (H := H) (as := as) ho
          obtain ⟨qs, h3, h4⟩ := zip_kp dq dq2 h1
          obtain ⟨h5, h6⟩ := h2 h4
          refine ⟨a, b, vs, us, qs, by rw [ev, eu], ?_, h3, h5, h6, fun p es ep hn hd => fin_dic rs hp (dOf_it h4 .nil) p es ep hn hd⟩
          cases t with
          | true => exact .inr ⟨hs, hs2⟩
          | false => exact .inl ⟨hs, hs2⟩
        · exact hp.elim
      · exact hp.elim
    · exact hp.elim
  · exact hp.elim
section
variable {G : Gz} {X : Cx} {W : WX} {k : Nat} {e e2 : Expr} {p p2 pos pos2 : Pos} {f : Ev → Mo (List D)}
theorem se_dzip (C : Cz G X W k) (hg : Gl X "dict") (hm : X.mg "dict" = none) (hg2 : Gl X "zip") (hm2 : X.mg "zip" = none) (ha : PA X [e, e2] (tA G W f))
    (hs : starEach [e, e2] X.env = (false, eval e X.env) :: starEach [e2] X.env := by rfl) (hpl : (backTo pos2 (starEach [e2] X.env)).any (·.1) = false := by rfl)
    (hs2 : starEach [.Call (.Name "zip" p2) [e, e2] [] pos2] X.env = (false, eval (.Call (.Name "zip" p2) [e, e2] [] pos2) X.env) :: starEach [] X.env := by rfl) :
    PE X (.Call (.Name "dict" p) [.Call (.Name "zip" p2) [e, e2] [] pos2] [] pos) (tE G W (cB dzipO f)) := by
  have eK := C.fit.K
  have ew := C.fit.w
  refine PE.imp (pe_dzip C.calm C.hu hg hm hg2 hm2 ha hs hpl hs2) ?_
  rw [eK, ew]
  exact fun σ H Q h => callb_imp dzipO_op σ H Q h
end
end Zp

set_option Elab.async false
set_option linter.all false
set_option autoImplicit false
set_option maxRecDepth 100000
set_option maxHeartbeats 4000000
namespace Zp
open PySem PySem.Spec PyProof.Rows L2
/-! ### a law's end -/
section
variable {fa : List He.Fa} {fn : List He.DefD} {gs : List GetD} {tf : List He.Defn} {exs : Exs}
theorem law_at {l : PySem.W.OpenLaw} (L : Lw l.prog fa fn gs tf exs) {tq : List (He.Defn × Str)} {cl : List Str} (htf : tq.map (·.1) = tf) {d : He.DefD} {a : Addr} {fd : FuncData} {lv n : Nat} {x : Str} {f : List DC → Mo D} (K : DefOk L tq cl d a fd lv [x] 1 f)
    (hb : ∀ (s : Shared) (u : Value), BindsTo s fd ⟨[u], []⟩ [(x, u)])
    (hf : ∀ ns : List Int, ns.length ≤ n → (∀ z ∈ ns, Builtin.Int.intBits z ≤ 1048576) → ∃ st', f [.v (.lst (ns.map fun i => .dat (.int i)))] [] = .ok (.dat (.bool true)) st') : LamX.LawAtS l L.w L.K (L2.CX l.prog L.w) lv n x L.mg a L.h := by
  let Gx0 : Gx := ⟨l.prog, L.w, L.K, L.mg, tabsOf tq L.K, cl⟩
  refine ⟨fd, tf.map fun p => He.cT L.K p, fun vs H Q E => ∃ d as st, RVs Gx0 H as [d] vs ∧ Rs Gx0 as st H ∧ Post Gx0 (RV Gx0) H as E Q (f [.v d] st), fun p hp => ?_, fun p hp => ?_, fun p hp => ?_, hb, ?_, ?_⟩
  · obtain ⟨q, hq, rfl⟩ := List.mem_map.mp hp
    exact L.c.empty q hq
  · obtain ⟨q, hq, rfl⟩ := List.mem_map.mp hp
    exact L.c.out q hq
  · obtain ⟨q, hq, rfl⟩ := List.mem_map.mp hp
    exact PySem.W.codeHd_of_K L.X (L.c.hd q hq)
  · intro H a ns hl hbits hT hS
    obtain ⟨st', e⟩ := hf ns hl hbits
    have nb : ∀ b, ¬ (⟨[], []⟩ : As).bad b := fun b z => by
      rcases z with z | z <;> simp at z
    have sl : SL L.K H ⟨[], []⟩ a (ns.map V.int) := by
      rcases hS with h | h
      · exact .inl ⟨nb a, h⟩
      · exact .inr h
    have rv : ∀ ns : List Int, RVs Gx0 H ⟨[], []⟩ (ns.map fun i => .dat (.int i)) (ns.map V.int) := fun ns => by
      induction ns with
      | nil => exact .nil
      | cons i r ih => exact .cons (.dat (.int i)) ih
    refine ⟨.lst (ns.map fun i => .dat (.int i)), ⟨[], []⟩, [], .cons (.lst sl (rv ns)) .nil, ⟨List.nodup_nil, rfl, fun n a c e => by simp at e, fun p hp => ?_, fun b hb => by simp at hb⟩, ?_⟩
    · obtain ⟨q, hq, rfl⟩ := List.mem_map.mp hp
      have hq1 : q.1 ∈ tf := by rw [← htf]; exact List.mem_map.mpr ⟨q, hq, rfl⟩
      have := hT (He.cT L.K q.1) (List.mem_map.mpr ⟨q.1, hq1, rfl⟩)
      refine ⟨#[], this, ?_, fun pos cv h => ?_⟩
      · exact by first | exact True.intro | exact .nil | (intro _ _; simp_all) | simp [PySem.W.TriplesOk]
      · exact by cases h
    · rw [e]
      exact fun as' v H' g rs r => by
        cases r with
        | dat r => cases r with
          | bl b => rfl
  · intro base hK hN hTab
    refine FnOk.imp ?_ ?_ (sp := spOf (L.G tq cl base 0) 1 f)
    · have := K.ok base (fun p hp => hTab (He.cT L.K p) (List.mem_map.mpr ⟨p, hp, rfl⟩)) 0
      rw [Nat.zero_add] at this
      exact this
    · intro vs H Q E ⟨d, as, st, r, rs, hp⟩
      exact ⟨[.v d], as, st, rfl, RCs.of (ds := [d]) r, rs, hp⟩
end
end Zp

set_option Elab.async false
set_option linter.all false
set_option autoImplicit false
set_option maxRecDepth 100000
set_option maxHeartbeats 4000000
namespace Zp
open PySem PySem.Spec PyProof.Rows L2
/-! ### a call sees only the cells that it is given -/
def hidC : Cell → Bool
  | .lst _ => true
  | .dic f _ => !f
  | .obj _ _ => true
/-- the cells that the arguments are; none: they hold more -/
def refsOf : List DC → Option (List Nat)
  | [] => some []
  | .v d :: r => match refsOf r with
    | none => none
    | some ks => match d with
      | .ref k => some (if k ∈ ks then ks else k :: ks)
      | d => if low 0 d = true then some ks else none
  | .clo _ :: _ => none
def renC (ks : List Nat) : DC → DC
  | .v (.ref k) => .v (.ref (ks.idxOf k))
  | x => x
def subC (ks : List Nat) (st : List Cell) : List Cell := ks.map fun k => st.getD k (.lst [])
def setAll (st : List Cell) : List Nat → List Cell → List Cell
  | k :: ks, c :: cs => setAll (st.set k c) ks cs
  | _, _ => st
def backI (ks : List Nat) (n i : Nat) : Nat := if i < ks.length then ks.getD i 0 else n + (i - ks.length)
def okFr (ks : List Nat) (st : List Cell) : Bool := (ks.all fun k => decide (k < st.length)) && ((List.range st.length).all fun j => decide (j ∈ ks) || hidC (st.getD j (.dic true [])))
def frm (g : List DC → Mo D) (ds : List DC) : Mo D := fun st => match refsOf ds with
  | none => g ds st
  | some ks => if okFr ks st = true then (match g (ds.map (renC ks)) (subC ks st) with
    | .ok d st2 => match d with
      | .ref i => .ok (.ref (backI ks st.length i)) (setAll st ks st2 ++ st2.drop ks.length)
      | d => if low 0 d = true then .ok d (setAll st ks st2 ++ st2.drop ks.length) else .bad
    | .exc e st2 => .exc e (setAll st ks st2 ++ st2.drop ks.length)
    | .bad => .bad) else g ds st
theorem refsOf_nd : ∀ {ds : List DC} {ks : List Nat}, refsOf ds = some ks → ks.Nodup
  | [], _, e => by cases e; exact List.nodup_nil
  | .v d :: r, ks, e => by
    unfold refsOf at e
    cases er : refsOf r with
    | none => rw [er] at e; cases e
    | some l =>
      rw [er] at e
      have nd := refsOf_nd er
      cases d with
      | ref k =>
        have e : some (if k ∈ l then l else k :: l) = some ks := e
        cases e
        by_cases h : k ∈ l
        · rw [if_pos h]; exact nd
        · rw [if_neg h]; exact List.nodup_cons.mpr ⟨h, nd⟩
      | _ =>
        have e : (if low 0 _ = true then some l else none) = some ks := e
        split at e
        · cases e; exact nd
        · cases e
  | .clo _ :: _, _, e => by cases e
theorem refsOf_arg : ∀ {ds : List DC} {ks : List Nat}, refsOf ds = some ks → ∀ x ∈ ds, ∃ d, x = .v d ∧ ((∃ k, d = .ref k ∧ k ∈ ks) ∨ low 0 d = true)
  | [], _, _, x, h => by simp at h
  | .v d :: r, ks, e, x, h => by
    unfold refsOf at e
    cases er : refsOf r with
    | none => rw [er] at e; cases e
    | some l =>
      rw [er] at e
      have ih := refsOf_arg er
      have key : (∀ k ∈ l, k ∈ ks) ∧ ((∃ k, d = .ref k ∧ k ∈ ks) ∨ low 0 d = true) := by
        cases d with
        | ref k =>
          have e : some (if k ∈ l then l else k :: l) = some ks := e
          cases e
          by_cases h : k ∈ l
          · rw [if_pos h]; exact ⟨fun _ z => z, .inl ⟨k, rfl, h⟩⟩
          · rw [if_neg h]; exact ⟨fun _ z => List.mem_cons_of_mem _ z, .inl ⟨k, rfl, List.mem_cons_self⟩⟩
        | _ =>
          have e : (if low 0 _ = true then some l else none) = some ks := e
          split at e
          · cases e; exact ⟨fun _ z => z, .inr (by assumption)⟩
          · cases e
      rcases List.mem_cons.mp h with z | z
      · exact ⟨d, z, key.2⟩
      · obtain ⟨d', e', h'⟩ := ih x z
        exact ⟨d', e', h'.imp (fun ⟨k, e1, e2⟩ => ⟨k, e1, key.1 k e2⟩) id⟩
  | .clo _ :: _, _, e, _, _ => by cases e
theorem setAll_len : ∀ {ks : List Nat} {cs st : List Cell}, (setAll st ks cs).length = st.length
  | [], _, _ => by unfold setAll; rfl
  | _ :: _, [], _ => by unfold setAll; rfl
  | k :: ks, c :: cs, st => by unfold setAll; rw [setAll_len, List.length_set]
theorem setAll_out : ∀ {ks : List Nat} {cs st : List Cell} {n : Nat}, n ∉ ks → (setAll st ks cs)[n]? = st[n]?
  | [], _, _, _, _ => by unfold setAll; rfl
  | _ :: _, [], _, _, _ => by unfold setAll; rfl
  | k :: ks, c :: cs, st, n, h => by
    unfold setAll
    rw [setAll_out fun z => h (List.mem_cons_of_mem _ z), List.getElem?_set_ne fun z => h (by rw [z]; exact List.mem_cons_self)]
theorem setAll_in : ∀ {ks : List Nat} {cs st : List Cell} {i n : Nat}, ks.Nodup → ks.length ≤ cs.length → ks[i]? = some n → n < st.length → (setAll st ks cs)[n]? = cs[i]?
  | [], _, _, _, _, _, _, e, _ => by simp at e
  | _ :: _, [], _, _, _, _, h, _, _ => by simp at h
  | k :: ks, c :: cs, st, 0, n, nd, h, e, hn => by
    simp at e; subst e
    unfold setAll
    rw [setAll_out (List.nodup_cons.mp nd).1, List.getElem?_set_self hn]; rfl
  | k :: ks, c :: cs, st, i + 1, n, nd, h, e, hn => by
    unfold setAll
    rw [setAll_in (List.nodup_cons.mp nd).2 (by simp at h; exact h) (by simpa using e) (by rw [List.length_set]; exact hn)]; rfl
section
variable {G : Gx} {H : Hp} {as : As} {st : List Cell} {ks : List Nat}
theorem frame (rs : Rs G as st H) (nd : ks.Nodup) (ok : okFr ks st = true) : ∃ as' : As, Rs G as' (subC ks st) H ∧ (∀ b, as'.bad b ↔ as.bad b) ∧ (∀ (i k : Nat) (a : Addr), ks[i]? = some k → as.m[k]? = some a → as'.m[i]? = some a) ∧
    ∀ (as2 : As) (st2 : List Cell) (H' : Hp), Gr H as' H' as2 → Rs G as2 st2 H' → ∃ asX : As, Gr H as H' asX ∧ Rs G asX (setAll st ks st2 ++ st2.drop ks.length) H' ∧ (∀ b, asX.bad b ↔ as2.bad b) ∧ ∀ (i : Nat) (a : Addr), as2.m[i]? = some a → asX.m[backI ks st.length i]? = some a := by
  unfold okFr at ok
  rw [Bool.and_eq_true] at ok
  have hk : ∀ k ∈ ks, k < st.length := fun k z => of_decide_eq_true (List.all_eq_true.mp ok.1 k z)
  have hh : ∀ j, j < st.length → j ∉ ks → hidC (st.getD j (.dic true [])) = true := fun j hj nj => by
    have := List.all_eq_true.mp ok.2 j (List.mem_range.mpr hj)
    rw [Bool.or_eq_true] at this
    rcases this with z | z
    · exact absurd (of_decide_eq_true z) nj
    · exact z
  have len := rs.len
  let os : List Nat := (List.range st.length).filter fun j => decide (j ∉ ks)
  have hos : ∀ j, j ∈ os ↔ j < st.length ∧ j ∉ ks := fun j => by simp [os]
  let gm : Nat → Addr := fun j => as.m.getD j 0
  have hgm : ∀ j, j < st.length → as.m[j]? = some (gm j) := fun j hj => by
    have hj' : j < as.m.length := by rw [len]; exact hj
    show as.m[j]? = some (as.m.getD j 0)
    rw [List.getD_eq_getElem?_getD, List.getElem?_eq_getElem hj']; rfl
  have inj : ∀ i j, i < st.length → j < st.length → gm i = gm j → i = j := fun i j hi hj e => by
    have h1 := hgm i hi
    have h2 := hgm j hj
    rw [e] at h1
    exact (List.getElem?_inj (by rw [len]; exact hi) rs.nd).mp (h1.trans h2.symm)
  have mem_m : ∀ b, b ∈ as.m ↔ ∃ j, j < st.length ∧ gm j = b := fun b => ⟨fun z => by
    obtain ⟨j, e⟩ := List.mem_iff_getElem?.mp z
    have hj : j < st.length := by rw [← len]; exact (List.getElem?_eq_some_iff.mp e).1
    exact ⟨j, hj, Option.some.inj ((hgm j hj).symm.trans e)⟩, fun ⟨j, hj, e⟩ => by rw [← e]; exact List.mem_of_getElem? (hgm j hj)⟩
  let mk : List Addr := ks.map gm
  let mo : List Addr := os.map gm
  have mem_k : ∀ b, b ∈ mk ↔ ∃ j, j ∈ ks ∧ gm j = b := fun b => List.mem_map
  have mem_o : ∀ b, b ∈ mo ↔ ∃ j, (j < st.length ∧ j ∉ ks) ∧ gm j = b := fun b => by
    constructor
    · intro z
      obtain ⟨j, hj, e⟩ := List.mem_map.mp z
      exact ⟨j, (hos j).mp hj, e⟩
    · rintro ⟨j, hj, e⟩
      exact List.mem_map.mpr ⟨j, (hos j).mpr hj, e⟩
  have split_m : ∀ b, b ∈ as.m ↔ b ∈ mk ∨ b ∈ mo := fun b => by
    constructor
    · intro z
      obtain ⟨j, hj, e⟩ := (mem_m b).mp z
      by_cases hj' : j ∈ ks
      · exact .inl ((mem_k b).mpr ⟨j, hj', e⟩)
      · exact .inr ((mem_o b).mpr ⟨j, ⟨hj, hj'⟩, e⟩)
    · rintro (z | z)
      · obtain ⟨j, hj, e⟩ := (mem_k b).mp z; exact (mem_m b).mpr ⟨j, hk j hj, e⟩
      · obtain ⟨j, hj, e⟩ := (mem_o b).mp z; exact (mem_m b).mpr ⟨j, hj.1, e⟩
  have dis : ∀ b, b ∈ mo → b ∉ mk := fun b z z' => by
    obtain ⟨j, hj, e⟩ := (mem_o b).mp z
    obtain ⟨i, hi, e'⟩ := (mem_k b).mp z'
    have := inj i j (hk i hi) hj.1 (e'.trans e.symm)
    subst this
    exact hj.2 hi
  have bad' : ∀ b, (⟨mk, mo ++ as.h⟩ : As).bad b ↔ as.bad b := fun b => by
    constructor
    · rintro (z | z)
      · exact .inl ((split_m b).mpr (.inl z))
      · rcases List.mem_append.mp z with z | z
        · exact .inl ((split_m b).mpr (.inr z))
        · exact .inr z
    · rintro (z | z)
      · rcases (split_m b).mp z with z | z
        · exact .inl z
        · exact .inr (List.mem_append_left _ z)
      · exact .inr (List.mem_append_right _ z)
  have hmk : ∀ (i k : Nat), ks[i]? = some k → mk[i]? = some (gm k) := fun i k e => by show (ks.map gm)[i]? = _; rw [List.getElem?_map, e]; rfl
  have kcell : ∀ (i : Nat) (a : Addr), mk[i]? = some a → ∃ k, ks[i]? = some k ∧ a = gm k := fun i a e => by
    have e : (ks.map gm)[i]? = some a := e
    rw [List.getElem?_map] at e
    obtain ⟨k, h1, h2⟩ := Option.map_eq_some_iff.mp e
    exact ⟨k, h1, h2.symm⟩
  refine ⟨⟨mk, mo ++ as.h⟩, ⟨?_, ?_, fun n a c e1 e2 => ?_, rs.tabs, fun b hb => ?_⟩, bad', fun i k a e1 e2 => ?_, fun as2 st2 H' g r2 => ?_⟩
  · show (ks.map gm).Nodup
    rw [List.nodup_iff_pairwise_ne, List.pairwise_map]
    exact List.Pairwise.imp_of_mem (fun {a b} ha hb h z => h (inj a b (hk a ha) (hk b hb) z)) (List.nodup_iff_pairwise_ne.mp nd)
  · show (ks.map gm).length = (subC ks st).length
    unfold subC
    rw [List.length_map, List.length_map]
  · obtain ⟨k, h1, rfl⟩ := kcell n a e1
    have hkl := hk k (List.mem_of_getElem? h1)
    have e2 : (ks.map fun k => st.getD k (.lst []))[n]? = some c := e2
    rw [List.getElem?_map, h1] at e2
    have e2 : some (st.getD k (.lst [])) = some c := e2
    have ec : st[k]? = some c := by
      rw [List.getD_eq_getElem?_getD, List.getElem?_eq_getElem hkl] at e2
      rw [List.getElem?_eq_getElem hkl]
      exact e2
    exact (rs.cell k _ c (hgm k hkl) ec).less fun b z => (bad' b).mp z
  · rcases List.mem_append.mp hb with z | z
    · refine ⟨dis b z, ?_⟩
      obtain ⟨j, hj, rfl⟩ := (mem_o b).mp z
      have ej : st[j]? = some st[j] := List.getElem?_eq_getElem hj.1
      have c := rs.cell j _ _ (hgm j hj.1) ej
      have hc := hh j hj.1 hj.2
      rw [List.getD_eq_getElem?_getD, ej] at hc
      have hc : hidC st[j] = true := hc
      cases e : st[j] with
      | lst l => rw [e] at c; obtain ⟨vs, h1, _⟩ := c; exact ⟨_, h1, .inl ⟨_, rfl⟩⟩
      | dic f l =>
        rw [e] at c hc
        obtain ⟨es, ep, kvs, h1, _⟩ := c
        cases f with
        | true => cases hc
        | false => unfold LkOk at h1; rw [if_neg Bool.false_ne_true] at h1; exact ⟨_, h1, .inr (.inl ⟨_, _, rfl⟩)⟩
      | obj cn fs => rw [e] at c; obtain ⟨C, dx, vfs, _, _, h1, _⟩ := c; exact ⟨_, h1, .inr (.inr ⟨_, _, _, rfl⟩)⟩
    · obtain ⟨h1, u, h2, h3⟩ := rs.hd b z
      exact ⟨fun z' => h1 ((split_m b).mpr (.inl z')), u, h2, h3⟩
  · have hkl := hk k (List.mem_of_getElem? e1)
    rw [hgm k hkl] at e2
    cases e2
    exact hmk i k e1
  · -- behind the call
    obtain ⟨ex, hex⟩ := g.pre
    have hex : mk ++ ex = as2.m := hex
    obtain ⟨t, ht⟩ := g.hid
    have ht : t ++ (mo ++ as.h) = as2.h := ht
    have l2 := r2.len
    have lmk : mk.length = ks.length := by show (ks.map gm).length = _; rw [List.length_map]
    have l3 : ks.length ≤ st2.length := by rw [← l2, ← hex, List.length_append, lmk]; omega
    have exl : ex.length = (st2.drop ks.length).length := by
      rw [List.length_drop, ← l2, ← hex, List.length_append, lmk]; omega
    have mo2 : ∀ b, b ∈ mo → b ∈ as2.h := fun b z => by rw [← ht]; exact List.mem_append_right _ (List.mem_append_left _ z)
    have exo : ∀ b, b ∈ ex → b ∉ as.m := fun b z z' => by
      have hb2 : b ∈ as2.m := by rw [← hex]; exact List.mem_append_right _ z
      rcases (split_m b).mp z' with y | y
      · have := r2.nd
        rw [← hex] at this
        exact (List.nodup_append.mp this).2.2 b y b z rfl
      · exact (r2.hd b (mo2 b y)).1 hb2
    have hX : ∀ b, b ∈ (t.filter fun b => decide (b ∉ as.m ++ ex)) ++ as.h → b ∈ as2.h := fun b z => by
      rcases List.mem_append.mp z with z | z
      · rw [← ht]; exact List.mem_append_left _ (List.mem_filter.mp z).1
      · rw [← ht]; exact List.mem_append_right _ (List.mem_append_right _ z)
    have badX : ∀ b, (⟨as.m ++ ex, (t.filter fun b => decide (b ∉ as.m ++ ex)) ++ as.h⟩ : As).bad b ↔ as2.bad b := fun b => by
      constructor
      · rintro (z | z)
        · rcases List.mem_append.mp z with z | z
          · rcases (split_m b).mp z with y | y
            · exact .inl (by rw [← hex]; exact List.mem_append_left _ y)
            · exact .inr (mo2 b y)
          · exact .inl (by rw [← hex]; exact List.mem_append_right _ z)
        · exact .inr (hX b z)
      · rintro (z | z)
        · rw [← hex] at z
          rcases List.mem_append.mp z with z | z
          · exact .inl (List.mem_append_left _ ((split_m b).mpr (.inl z)))
          · exact .inl (List.mem_append_right _ z)
        · rw [← ht] at z
          by_cases hb : b ∈ as.m ++ ex
          · exact .inl hb
          · rcases List.mem_append.mp z with z | z
            · exact .inr (List.mem_append_left _ (List.mem_filter.mpr ⟨z, decide_eq_true hb⟩))
            · rcases List.mem_append.mp z with z | z
              · exact absurd (List.mem_append_left _ ((split_m b).mpr (.inr z))) hb
              · exact .inr (List.mem_append_right _ z)
    have gX : Gr H as H' ⟨as.m ++ ex, (t.filter fun b => decide (b ∉ as.m ++ ex)) ++ as.h⟩ :=
      ⟨⟨g.fix, fun b o h1 h2 h3 => ⟨(g.keep b o h1 (fun z => h2 ((bad' b).mp z)) h3).1, fun z => (g.keep b o h1 (fun z => h2 ((bad' b).mp z)) h3).2 ((badX b).mp z)⟩, List.prefix_append _ _⟩, List.suffix_append _ _, fun b hb => g.held b (List.mem_append_right _ hb)⟩
    have getX : ∀ (i : Nat) (a : Addr), as2.m[i]? = some a → (as.m ++ ex)[backI ks st.length i]? = some a := fun i a e => by
      rw [← hex] at e
      unfold backI
      by_cases hi : i < ks.length
      · rw [if_pos hi]
        rw [List.getElem?_append_left (by rw [lmk]; exact hi)] at e
        obtain ⟨k, h1, rfl⟩ := kcell i a e
        have hkl := hk k (List.mem_of_getElem? h1)
        rw [List.getD_eq_getElem?_getD, h1]
        show (as.m ++ ex)[k]? = _
        rw [List.getElem?_append_left (by rw [len]; exact hkl)]
        exact hgm k hkl
      · rw [if_neg hi]
        rw [List.getElem?_append_right (by rw [lmk]; omega), lmk] at e
        rw [List.getElem?_append_right (by rw [len]; omega), len, Nat.add_sub_cancel_left]
        exact e
    refine ⟨_, gX, ⟨?_, ?_, fun n a c e1 e2 => ?_, r2.tabs, fun b hb => ?_⟩, badX, getX⟩
    · refine List.nodup_append.mpr ⟨rs.nd, ?_, fun x hx y hy e => exo y hy (by rw [← e]; exact hx)⟩
      have := r2.nd
      rw [← hex] at this
      exact (List.nodup_append.mp this).2.1
    · show (as.m ++ ex).length = (setAll st ks st2 ++ st2.drop ks.length).length
      rw [List.length_append, List.length_append, setAll_len, len, exl]
    · have e1 : (as.m ++ ex)[n]? = some a := e1
      by_cases hn : n < st.length
      · rw [List.getElem?_append_left (by rw [len]; exact hn)] at e1
        rw [List.getElem?_append_left (by rw [setAll_len]; exact hn)] at e2
        by_cases hkn : n ∈ ks
        · obtain ⟨i, hi⟩ := List.mem_iff_getElem?.mp hkn
          rw [setAll_in nd l3 hi hn] at e2
          have ea : as2.m[i]? = some a := by
            rw [← hex, List.getElem?_append_left (by rw [lmk]; exact (List.getElem?_eq_some_iff.mp hi).1), hmk i n hi]
            rw [hgm n hn] at e1
            exact e1
          exact (r2.cell i a c ea e2).less fun b z => (badX b).mp z
        · rw [setAll_out hkn] at e2
          have ha : a ∈ mo := (mem_o a).mpr ⟨n, ⟨hn, hkn⟩, by rw [hgm n hn] at e1; exact Option.some.inj e1⟩
          exact (rs.cell n a c e1 e2).gk gX.toGk (g.held a (List.mem_append_left _ ha))
      · rw [List.getElem?_append_right (by rw [len]; omega), len] at e1
        rw [List.getElem?_append_right (by rw [setAll_len]; omega), setAll_len, List.getElem?_drop] at e2
        have ea : as2.m[ks.length + (n - st.length)]? = some a := by
          rw [← hex, List.getElem?_append_right (by rw [lmk]; omega), lmk, Nat.add_sub_cancel_left]
          exact e1
        exact (r2.cell _ a c ea e2).less fun b z => (badX b).mp z
    · refine ⟨?_, (r2.hd b (hX b hb)).2⟩
      rcases List.mem_append.mp hb with z | z
      · exact of_decide_eq_true (List.mem_filter.mp z).2
      · intro z'
        rcases List.mem_append.mp z' with y | y
        · exact (rs.hd b z).1 y
        · exact (r2.hd b (hX b hb)).1 (by rw [← hex]; exact List.mem_append_right _ y)
end
theorem rcs_ren {G : Gz} {H : Hp} {as as' : As} {ks : List Nat} (bad' : ∀ b, as'.bad b ↔ as.bad b) (hm : ∀ (i k : Nat) (a : Addr), ks[i]? = some k → as.m[k]? = some a → as'.m[i]? = some a) : ∀ {ds : List DC} {vs : List V}, (∀ x ∈ ds, ∃ d, x = .v d ∧ ((∃ k, d = .ref k ∧ k ∈ ks) ∨ low 0 d = true)) → RCs G H as ds vs → RCs G H as' (ds.map (renC ks)) vs
  | _, _, _, .nil => .nil
  | x :: ds, _, h, .cons a b => by
    refine .cons ?_ (rcs_ren bad' hm (fun y hy => h y (List.mem_cons_of_mem _ hy)) b)
    obtain ⟨d, rfl, hd⟩ := h x List.mem_cons_self
    have a : RV G H as d _ := a
    rcases hd with ⟨k, rfl, hk⟩ | hl
    · cases a with
      | ref ea =>
        have e1 : ks[ks.idxOf k]? = some k := by
          rw [List.getElem?_eq_getElem (List.idxOf_lt_length_of_mem hk)]
          exact congrArg some (List.getElem_idxOf (List.idxOf_lt_length_of_mem hk))
        exact .ref (hm _ k _ e1 ea)
    · have r : RV G H as' d _ := RV.less0 (fun b z => (bad' b).mp z) a hl
      cases d with
      | ref k => simp [low] at hl
      | _ => exact r
theorem frm_sp {G : Gz} {n : Nat} {g : List DC → Mo D} {vs : List V} {H : Hp} {Q : VK} {E : XK} (h : spOf G n (frm g) vs H Q E) : spOf G n g vs H Q E := by
  obtain ⟨ds, as, st, hl, ra, rs, hp⟩ := h
  unfold frm at hp
  cases er : refsOf ds with
  | none => rw [er] at hp; exact ⟨ds, as, st, hl, ra, rs, hp⟩
  | some ks =>
    rw [er] at hp
    have hp : Post G (RV G) H as E Q (if okFr ks st = true then (match g (ds.map (renC ks)) (subC ks st) with
      | .ok d st2 => match d with
        | .ref i => .ok (.ref (backI ks st.length i)) (setAll st ks st2 ++ st2.drop ks.length)
        | d => if low 0 d = true then .ok d (setAll st ks st2 ++ st2.drop ks.length) else .bad
      | .exc e st2 => .exc e (setAll st ks st2 ++ st2.drop ks.length)
      | .bad => .bad) else g ds st) := hp
    by_cases ho : okFr ks st = true
    · rw [if_pos ho] at hp
      obtain ⟨as', rs', bad', hm, fr⟩ := frame rs (refsOf_nd er) ho
      refine ⟨ds.map (renC ks), as', subC ks st, by rw [List.length_map]; exact hl, rcs_ren bad' hm (refsOf_arg er) ra, rs', ?_⟩
      cases eo : g (ds.map (renC ks)) (subC ks st) with
      | bad => rw [eo] at hp; exact hp
      | exc e st2 =>
        rw [eo] at hp
        intro as2 cls dd H' g2 r2 x
        obtain ⟨asX, gX, rX, bX, _⟩ := fr as2 st2 H' g2 r2
        exact hp asX cls dd H' gX rX (x.less fun b z => (bX b).mp z)
      | ok d st2 =>
        rw [eo] at hp
        intro as2 v H' g2 r2 x
        obtain ⟨asX, gX, rX, bX, mX⟩ := fr as2 st2 H' g2 r2
        cases d with
        | ref i =>
          cases x with
          | ref ea => exact hp asX _ H' gX rX (.ref (mX i _ ea))
        | _ =>
          have hp : Post G (RV G) H as E Q (if low 0 _ = true then .ok _ (setAll st ks st2 ++ st2.drop ks.length) else .bad) := hp
          split at hp
          · rename_i hlow
            exact hp asX v H' gX rX (RV.less0 (fun b z => (bX b).mp z) x hlow)
          · exact hp.elim
    · rw [if_neg ho] at hp
      exact ⟨ds, as, st, hl, ra, rs, hp⟩
theorem FnOk.frm {G : Gz} {b : Heap} {k n : Nat} {f : Addr} {fd : FuncData} {ps : List Str} {g : List DC → Mo D} (F : FnOk G.P G.w G.K G.mg b (L2.CX G.P G.w) k f fd ps (spOf G n g)) : FnOk G.P G.w G.K G.mg b (L2.CX G.P G.w) k f fd ps (spOf G n (frm g)) :=
  F.imp fun vs H Q E h => frm_sp h
end Zp

set_option Elab.async false
set_option linter.all false
set_option autoImplicit false
set_option maxRecDepth 100000
set_option maxHeartbeats 4000000
namespace K57
open PySem PySem.Spec PyProof.Rows L2 Zp
/-! ### the text -/
abbrev prog : Program := PySem.Challenge.rw_partedlots_k57_whole_progressions.prog
def top (i : Nat) : Stmt := PySem.Challenge.pw_partedlots_k57_whole_progressions.main.body.getD i (.Pass ⟨0, 0, 0, 0⟩)
abbrev cl : List Str := ["Lots"]
def cn_WORDS : List Cn := [.str "add", .str "all", .str "apart", .str "begin", .str "book", .str "breaker", .str "case", .str "game", .str "good", .str "in", .str "lost", .str "lot", .str "lots", .str "maker", .str "no", .str "none", .str "of", .str "open", .str "out", .str "part", .str "quit", .str "side", .str "sides", .str "strike", .str "take", .str "thing", .str "together", .str "tree", .str "undo", .str "yes"]
def d_law_well : He.DefD := ⟨("_law_well", none), "_law_well", "_law_well", defArgs (top 38), defBody (top 38), defScope (top 38), [], []⟩
def d_law_draw : He.DefD := ⟨("_law_draw", none), "_law_draw", "_law_draw", defArgs (top 39), defBody (top 39), defScope (top 39), [], []⟩
def d_law_of : He.DefD := ⟨("_law_of", none), "_law_of", "_law_of", defArgs (top 40), defBody (top 40), defScope (top 40), [], []⟩
def d_law_in_order : He.DefD := ⟨("_law_in_order", none), "_law_in_order", "_law_in_order", defArgs (top 42), defBody (top 42), defScope (top 42), [], []⟩
def d_law_progressions : He.DefD := ⟨("_law_progressions", none), "_law_progressions", "_law_progressions", defArgs (top 44), defBody (top 44), defScope (top 44), [], []⟩
def d_is_whole : He.DefD := ⟨("is_whole", none), "is_whole", "is_whole", defArgs (top 12), defBody (top 12), defScope (top 12), [], []⟩
def d_is_between : He.DefD := ⟨("is_between", none), "is_between", "is_between", defArgs (top 13), defBody (top 13), defScope (top 13), [], []⟩
def d_check_number : He.DefD := ⟨("check_number", none), "check_number", "check_number", defArgs (top 27), defBody (top 27), defScope (top 27), [], []⟩
def d_wrong_in : He.DefD := ⟨("wrong_in", none), "wrong_in", "wrong_in", defArgs (top 17), defBody (top 17), defScope (top 17), [], []⟩
def d_is_word : He.DefD := ⟨("is_word", none), "is_word", "is_word", defArgs (top 15), defBody (top 15), defScope (top 15), [], []⟩
def d_is_name : He.DefD := ⟨("is_name", none), "is_name", "is_name", defArgs (top 16), defBody (top 16), defScope (top 16), [], []⟩
def d_are_below : He.DefD := ⟨("are_below", none), "are_below", "are_below", defArgs (top 18), defBody (top 18), defScope (top 18), [], []⟩
def d_wrong_in_things : He.DefD := ⟨("wrong_in_things", none), "wrong_in_things", "wrong_in_things", defArgs (top 23), defBody (top 23), defScope (top 23), [], []⟩
def d_is_one_of : He.DefD := ⟨("is_one_of", none), "is_one_of", "is_one_of", defArgs (top 14), defBody (top 14), defScope (top 14), [], []⟩
def d_is_set_of_names : He.DefD := ⟨("is_set_of_names", none), "is_set_of_names", "is_set_of_names", defArgs (top 19), defBody (top 19), defScope (top 19), [], []⟩
def d_set_order : He.DefD := ⟨("set_order", none), "set_order", "set_order", defArgs (top 6), defBody (top 6), defScope (top 6), [], []⟩
def d_wrong_in_rows : He.DefD := ⟨("wrong_in_rows", none), "wrong_in_rows", "wrong_in_rows", defArgs (top 24), defBody (top 24), defScope (top 24), [], []⟩
def d_Lots_init : He.DefD := ⟨("Lots", some "__init__"), "__init__", "Lots.__init__", defArgs (inCls (top 26) 0), defBody (inCls (top 26) 0), defScope (inCls (top 26) 0), [], []⟩
def d_in_order : He.DefD := ⟨("in_order", none), "in_order", "in_order", defArgs (top 7), defBody (top 7), defScope (top 7), [], []⟩
def d_names_of : He.DefD := ⟨("names_of", none), "names_of", "names_of", defArgs (top 30), defBody (top 30), defScope (top 30), [], []⟩
def d_lots_with : He.DefD := ⟨("lots_with", none), "lots_with", "lots_with", defArgs (top 31), defBody (top 31), defScope (top 31), [], []⟩
def d_progressions_by : He.DefD := ⟨("progressions_by", none), "progressions_by", "progressions_by", defArgs (top 32), defBody (top 32), defScope (top 32), [], []⟩
def d_progressions : He.DefD := ⟨("progressions", none), "progressions", "progressions", defArgs (top 36), defBody (top 36), defScope (top 36), [], []⟩
def d_law_same : He.DefD := ⟨("_law_same", none), "_law_same", "_law_same", defArgs (top 41), defBody (top 41), defScope (top 41), [], []⟩
def d_Lots_parts : He.DefD := ⟨("Lots", some "parts"), "parts", "Lots.parts", defArgs (inCls (top 26) 3), defBody (inCls (top 26) 3), defScope (inCls (top 26) 3), [], []⟩
def d_Lots_rows : He.DefD := ⟨("Lots", some "rows"), "rows", "Lots.rows", defArgs (inCls (top 26) 2), defBody (inCls (top 26) 2), defScope (inCls (top 26) 2), [], []⟩
def d_Lots_things : He.DefD := ⟨("Lots", some "things"), "things", "Lots.things", defArgs (inCls (top 26) 1), defBody (inCls (top 26) 1), defScope (inCls (top 26) 1), [], []⟩
def d_Lots_eq : He.DefD := ⟨("Lots", some "__eq__"), "__eq__", "Lots.__eq__", defArgs (inCls (top 26) 4), defBody (inCls (top 26) 4), defScope (inCls (top 26) 4), [], []⟩
def d_law_within : He.DefD := ⟨("_law_within", none), "_law_within", "_law_within", defArgs (top 43), defBody (top 43), defScope (top 43), [], []⟩
def d_law_right : He.DefD := ⟨("_law_right", none), "_law_right", "_law_right", defArgs (top 45), defBody (top 45), defScope (top 45), [], []⟩
def d_law : He.DefD := ⟨("law", none), "law", "law", defArgs (top 46), defBody (top 46), defScope (top 46), [], []⟩
abbrev fa : List He.Fa := [.free "len", .free "min", .free "max", .free "range", .free "int", .free "abs", .glo "_law_well", .free "divmod", .glo "_law_draw", .glo "_law_of", .free "tuple", .free "dict", .free "list", .free "sorted", .glo "_law_in_order", .glo "_law_progressions", .free "isinstance", .free "bool", .glo "is_whole", .glo "is_between", .int "MOST_NUMBER" 9, .glo "check_number", .int "LEAST_LONG" 2, .free "enumerate", .free "str", .str "LETTERS_values" "abcdefghijklmnopqrstuvwxyz", .free "all", .glo "is_word", .int "MOST_LETTERS" 8, .glo "WORDS", .glo "is_name", .glo "are_below", .int "MOST_THINGS" 9, .glo "wrong_in", .glo "wrong_in_things", .glo "is_one_of", .glo "is_set_of_names", .glo "set_order", .int "MOST_ROWS" 40, .glo "wrong_in_rows", .str "LETTERS_knownwork" "abcdefghi", .glo "names_of", .glo "in_order", .mkr "Lots", .glo "Lots", .glo "lots_with", .glo "progressions_by", .glo "progressions", .glo "_law_same", .free "zip", .glo "_law_within", .glo "_law_right", .glo "law", .cls "Lots", .noat "Lots" "all_told"]
abbrev fn : List He.DefD := [d_law_well, d_law_draw, d_law_of, d_law_in_order, d_law_progressions, d_is_whole, d_is_between, d_check_number, d_wrong_in, d_is_word, d_is_name, d_are_below, d_wrong_in_things, d_is_one_of, d_is_set_of_names, d_set_order, d_wrong_in_rows, d_Lots_init, d_in_order, d_names_of, d_lots_with, d_progressions_by, d_progressions, d_law_same, d_Lots_eq, d_law_within, d_law_right, d_law]
abbrev gs : List GetD := [⟨"Lots", "parts", d_Lots_parts⟩, ⟨"Lots", "rows", d_Lots_rows⟩, ⟨"Lots", "things", d_Lots_things⟩]
abbrev tf : List He.Defn := [("wrong_in_things", none), ("is_set_of_names", none), ("wrong_in_rows", none)]
abbrev TQ : List (He.Defn × Str) := [(("wrong_in_things", none), "wrong_in_things.<locals>.<lambda>"), (("is_set_of_names", none), "is_set_of_names.<locals>.<lambda>"), (("wrong_in_rows", none), "wrong_in_rows.<locals>.<lambda>")]
abbrev exs : Exs := [(fun K => He.tupB K "WORDS" (cn_WORDS.map Cn.dv)), (apartB TQ), (iscB cl "Lots"), (insB cl), ins0B, (eqcB "Lots")]
abbrev LW : Type := Lw prog fa fn gs tf exs
theorem insF (L : LW) (b : Heap) (kc : Nat) : InsF (L.G TQ cl b kc).toGx := insF_ok L TQ b kc (L.ex 3) (L.ex 4)
theorem na_all_told (L : LW) (b : Heap) (kc : Nat) : ∀ c ∈ cl, ∀ Ca, (L.G TQ cl b kc).mg c = some (.ref Ca) → L2.Cls L.K Ca ∧ L2.NoAttr L.K Ca "all_told" := by
  intro c hc Ca e
  have hc : c = "Lots" := by simpa using hc
  rcases hc with hc
  · subst hc
    have e2 := (L.glo 44).symm.trans e
    cases e2
    exact ⟨He.cls_ok (L.fact 53), He.noat_ok (L.fact 54)⟩
/-! _law_well -/
abbrev N_law_well : List Str := ["script", "lap", "stirred", "cell", "own"]
theorem sc_law_well : FnScope N_law_well ["script", "lap"] (defScope (top 38)) := ⟨rfl, rfl, rfl, by decide +kernel, rfl, by decide +kernel, by decide +kernel⟩
def b_law_well : Cs := (sSeq (sAsg 2 (cOp2 (liftD addD) (cD (.int 704969)) (cOp2 (liftD mulD) (cD (.int 6121)) (cV 1)))) (sSeq (sFor (iAny (cSl (cV 0) oN (oS (cD (.int 16))))) (gN 3) (sAsg 2 (cOp2 (liftD modD) (cB intO (cCons (cOp2 (liftD addD) (cOp2 (liftD addD) (cOp2 (liftD mulD) (cV 2) (cD (.int 48271))) (cOp2 (liftD modD) (cB intO (cCons (cV 3) cNil)) (cD (.int 2147483549)))) (cD (.int 23))) cNil)) (cD (.int 2147483587))))) (sSeq (sAsg 4 (cIf (cBl (cCmp .Lt (cV 1) (cB lenO (cCons (cV 0) cNil)))) (cB intO (cCons (cSub (cV 0) (cV 1)) cNil)) (cD (.int 0)))) (sSeq (sAsg 2 (cOp2 (liftD modD) (cB intO (cCons (cOp2 (liftD addD) (cOp2 (liftD addD) (cOp2 (liftD mulD) (cV 2) (cD (.int 53))) (cOp2 (liftD mulD) (cOp2 (liftD modD) (cB intO (cCons (cV 4) cNil)) (cD (.int 2147483549))) (cD (.int 15013)))) (cD (.int 11))) cNil)) (cD (.int 2147483587)))) (sRet (cLstM (cCons (cIf (cOrT (cBl (cCmp .Lt (cV 4) (cD (.int 0)))) (cBl (cCmp .GtE (cV 4) (cOp2 (liftD powD) (cD (.int 10)) (cD (.int 15)))))) (cB absO (cCons (cV 4) cNil)) (cD (.int 0))) (cCons (cV 2) (cCons (cD (.int 0)) cNil)))))))))
def f_law_well : List DC → Mo D := frm (fnKeep 5 b_law_well)
theorem k_law_well (L : LW) : ∃ fd, DefOk L TQ cl d_law_well (He.fAd L.K d_law_well.at_) fd 1 ["script", "lap"] 2 f_law_well := by
  obtain ⟨fd, F⟩ := L.def_ 0 (d := d_law_well) rfl
  refine ⟨fd, F, FunD.bindsN F fun _ _ _ _ _ _ us hl => match us, hl with | [_, _], _ => rfl, fun b B kc => ?_⟩
  refine FnOk.frm (G := L.G TQ cl b kc) (b := b) ?_
  refine fn_okD (G := L.G TQ cl b kc) (k := kc + 0) (N := N_law_well) (r := retK) (b := b_law_well) F sc_law_well rfl (by decide) retK_ok fun cdv hcd A outer s H E C => ?_
  exact (ss_cons (sp_asg sc_law_well.nd rfl (by first | exact Or.inl rfl | exact Or.inr rfl) (se_add C.fit se_int (se_mul C.fit se_int (se_var (pv 1)))))
    (ss_cons (sp_for C (si_any C.fit (se_slice C.fit (se_var (pv 0)) so_none (so_some se_int))) (sg_name sc_law_well.nd rfl (by first | exact Or.inl rfl | exact Or.inr rfl)) (ss_one (sp_asg sc_law_well.nd rfl (by first | exact Or.inl rfl | exact Or.inr rfl) (se_mod (se_callTy call_int1 intO_op (by rfl) (L.free 4) bt_int (sl_cons (se_add C.fit (se_add C.fit (se_mul C.fit (se_var (pv 2)) se_int) (se_mod (se_callTy call_int1 intO_op (by rfl) (L.free 4) bt_int (sl_cons (se_var (pv 3)) sl_nil)) se_int)) se_int) sl_nil)) se_int))))
    (ss_cons (sp_asg sc_law_well.nd rfl (by first | exact Or.inl rfl | exact Or.inr rfl) (se_if (st_cmp C.fit C.hu (se_var (pv 1)) (se_callB call_lenA lenO_op (by rfl) (L.free 0) bt_len (sl_cons (se_var (pv 0)) sl_nil)) (by rfl)) (se_callTy call_int1 intO_op (by rfl) (L.free 4) bt_int (sl_cons (se_sub2 C (se_var (pv 0)) (se_var (pv 1))) sl_nil)) se_int))
    (ss_cons (sp_asg sc_law_well.nd rfl (by first | exact Or.inl rfl | exact Or.inr rfl) (se_mod (se_callTy call_int1 intO_op (by rfl) (L.free 4) bt_int (sl_cons (se_add C.fit (se_add C.fit (se_mul C.fit (se_var (pv 2)) se_int) (se_mul C.fit (se_mod (se_callTy call_int1 intO_op (by rfl) (L.free 4) bt_int (sl_cons (se_var (pv 4)) sl_nil)) se_int) se_int)) se_int) sl_nil)) se_int))
    (ss_one (sp_ret (se_lstM (sl_cons (se_if (st_w (sw_or (st_cmp C.fit C.hu (se_var (pv 4)) se_int (by rfl)) (sw_or1 (st_cmp C.fit C.hu (se_var (pv 4)) (se_pow se_int se_int) (by rfl))))) (se_callB call_abs absO_op (by rfl) (L.free 5) bt_abs (sl_cons (se_var (pv 4)) sl_nil)) se_int) (sl_cons (se_var (pv 2)) (sl_cons se_int sl_nil))))))))))
/-! _law_draw -/
abbrev N_law_draw : List Str := ["well", "limit", "figure", "mixed"]
theorem sc_law_draw : FnScope N_law_draw ["well", "limit"] (defScope (top 39)) := ⟨rfl, rfl, rfl, by decide +kernel, rfl, by decide +kernel, by decide +kernel⟩
def b_law_draw : Cs := (sSeq (sIf (cBl (cCmp .Gt (cSub (cV 0) (cD (.int 0))) (cD (.int 0)))) (sSeq (sAsgG (gT 2 (gsCons (gSub (cV 0) (cD (.int 0))) (gsCons (gN 2) gsNil))) (cB divmodO (cCons (cSub (cV 0) (cD (.int 0))) (cCons (cV 1) cNil)))) (sRet (cV 2))) sNx) (sSeq (sAsgG (gSub (cV 0) (cD (.int 2))) (cOp2 (liftD addD) (cSub (cV 0) (cD (.int 2))) (cD (.int 1)))) (sSeq (sAsg 3 (cOp2 (liftD modD) (cB intO (cCons (cOp2 (liftD addD) (cOp2 (liftD addD) (cOp2 (liftD mulD) (cSub (cV 0) (cD (.int 1))) (cD (.int 40009))) (cOp2 (liftD mulD) (cD (.int 15013)) (cSub (cV 0) (cD (.int 2))))) (cD (.int 3))) cNil)) (cD (.int 2147483587)))) (sSeq (sAsgG (gSub (cV 0) (cD (.int 1))) (cOp2 (liftD modD) (cB intO (cCons (cOp2 (liftD addD) (cOp2 (liftD mulD) (cV 3) (cOp2 (liftD addD) (cOp2 (liftD modD) (cB intO (cCons (cV 3) cNil)) (cD (.int 5003))) (cD (.int 20011)))) (cSub (cV 0) (cD (.int 2)))) cNil)) (cD (.int 2147483587)))) (sRet (cOp2 (liftD modD) (cB intO (cCons (cOp2 (liftD fdivD) (cSub (cV 0) (cD (.int 1))) (cD (.int 1031))) cNil)) (cV 1)))))))
def f_law_draw : List DC → Mo D := frm (fnOf 4 b_law_draw)
theorem k_law_draw (L : LW) : ∃ fd, DefOk L TQ cl d_law_draw (He.fAd L.K d_law_draw.at_) fd 1 ["well", "limit"] 2 f_law_draw := by
  obtain ⟨fd, F⟩ := L.def_ 1 (d := d_law_draw) rfl
  refine ⟨fd, F, FunD.bindsN F fun _ _ _ _ _ _ us hl => match us, hl with | [_, _], _ => rfl, fun b B kc => ?_⟩
  refine FnOk.frm (G := L.G TQ cl b kc) (b := b) ?_
  refine fn_okD (G := L.G TQ cl b kc) (k := kc + 0) (N := N_law_draw) (r := retD) (b := b_law_draw) F sc_law_draw rfl (by decide) retD_ok fun cdv hcd A outer s H E C => ?_
  exact (ss_cons (sp_if (st_cmp C.fit C.hu (se_sub2 C (se_var (pv 0)) se_int) se_int (by rfl)) (ss_cons (sp_asgG (se_callB call_divmodW divmodO_op (by rfl) (L.free 7) bt_divmod (sl_cons (se_sub2 C (se_var (pv 0)) se_int) (sl_cons (se_var (pv 1)) sl_nil))) (sg_tup C.fit C.calm (sgs_cons (sg_sub2 C (have C := C.all; (se_var (pv 0))) (have C := C.all; se_int)) (sgs_cons (sg_name sc_law_draw.nd rfl (by first | exact Or.inl rfl | exact Or.inr rfl)) sgs_nil))))
    (ss_one (sp_ret (se_var (pv 2))))) ss_nil)
    (ss_cons (sp_asgG (se_add C.fit (se_sub2 C (se_var (pv 0)) se_int) se_int) (sg_sub2 C (have C := C.all; (se_var (pv 0))) (have C := C.all; se_int)))
    (ss_cons (sp_asg sc_law_draw.nd rfl (by first | exact Or.inl rfl | exact Or.inr rfl) (se_mod (se_callTy call_int1 intO_op (by rfl) (L.free 4) bt_int (sl_cons (se_add C.fit (se_add C.fit (se_mul C.fit (se_sub2 C (se_var (pv 0)) se_int) se_int) (se_mul C.fit se_int (se_sub2 C (se_var (pv 0)) se_int))) se_int) sl_nil)) se_int))
    (ss_cons (sp_asgG (se_mod (se_callTy call_int1 intO_op (by rfl) (L.free 4) bt_int (sl_cons (se_add C.fit (se_mul C.fit (se_var (pv 3)) (se_add C.fit (se_mod (se_callTy call_int1 intO_op (by rfl) (L.free 4) bt_int (sl_cons (se_var (pv 3)) sl_nil)) se_int) se_int)) (se_sub2 C (se_var (pv 0)) se_int)) sl_nil)) se_int) (sg_sub2 C (have C := C.all; (se_var (pv 0))) (have C := C.all; se_int)))
    (ss_one (sp_ret (se_mod (se_callTy call_int1 intO_op (by rfl) (L.free 4) bt_int (sl_cons (se_fdiv (se_sub2 C (se_var (pv 0)) se_int) se_int) sl_nil)) (se_var (pv 1)))))))))
/-! _law_of -/
abbrev N_law_of : List Str := ["well", "some"]
theorem sc_law_of : FnScope N_law_of ["well", "some"] (defScope (top 40)) := ⟨rfl, rfl, rfl, by decide +kernel, rfl, by decide +kernel, by decide +kernel⟩
def b_law_of : Cs := (sRet (cSub (cV 1) (cCall f_law_draw (aCons (cVl (cV 0)) (aCons (cVl (cB lenO (cCons (cV 1) cNil))) aNil)))))
def f_law_of : List DC → Mo D := frm (fnOf 2 b_law_of)
theorem k_law_of (L : LW) : ∃ fd, DefOk L TQ cl d_law_of (He.fAd L.K d_law_of.at_) fd 2 ["well", "some"] 2 f_law_of := by
  obtain ⟨fd, F⟩ := L.def_ 2 (d := d_law_of) rfl
  obtain ⟨fd_law_draw, K_law_draw⟩ := k_law_draw L
  refine ⟨fd, F, FunD.bindsN F fun _ _ _ _ _ _ us hl => match us, hl with | [_, _], _ => rfl, fun b B kc => ?_⟩
  refine FnOk.frm (G := L.G TQ cl b kc) (b := b) ?_
  refine fn_okD (G := L.G TQ cl b kc) (k := kc + 1) (N := N_law_of) (r := retD) (b := b_law_of) F sc_law_of rfl (by decide) retD_ok fun cdv hcd A outer s H E C => ?_
  exact (ss_one (sp_ret (se_sub2 C (se_var (pv 1)) (se_call C ⟨rfl⟩ (K_law_draw.ok b B kc) (by omega) (by rfl) (L.glo 8) K_law_draw.F.kp K_law_draw.bd (len_cons (len_cons len_nil)) (sa_cons (sx_val ⟨rfl⟩ (se_var (pv 0))) (sa_cons (sx_val ⟨rfl⟩ (se_callB call_lenA lenO_op (by rfl) (L.free 0) bt_len (sl_cons (se_var (pv 1)) sl_nil))) sa_nil))))))
/-! _law_in_order -/
abbrev N_law_in_order : List Str := ["rows", "size", "row"]
theorem sc_law_in_order : FnScope N_law_in_order ["rows"] (defScope (top 42)) := ⟨rfl, rfl, rfl, by decide +kernel, rfl, by decide +kernel, by decide +kernel⟩
def b_law_in_order : Cs := (sRet (cB tupleO (cCons (cComp (iAny (cB sortedO (cCons (cComp (iAny (cB listO (cCons (cB dpairsO (cCons (cComp (iAny (cV 0)) [2] (step1 (gN 2) cYes (cTup (cCons (cV 2) (cCons (cD (.bool true)) cNil)))) finL) cNil)) cNil))) [2] (step1 (gN 2) cYes (cTup (cCons (cB lenO (cCons (cV 2) cNil)) (cCons (cV 2) cNil)))) finL) cNil))) [1, 2] (step1 (gT 2 (gsCons (gN 1) (gsCons (gN 2) gsNil))) cYes (cV 2)) finL) cNil)))
def f_law_in_order : List DC → Mo D := frm (fnOf 3 b_law_in_order)
theorem k_law_in_order (L : LW) : ∃ fd, DefOk L TQ cl d_law_in_order (He.fAd L.K d_law_in_order.at_) fd 1 ["rows"] 1 f_law_in_order := by
  obtain ⟨fd, F⟩ := L.def_ 3 (d := d_law_in_order) rfl
  refine ⟨fd, F, FunD.bindsN F fun _ _ _ _ _ _ us hl => match us, hl with | [_], _ => rfl, fun b B kc => ?_⟩
  refine FnOk.frm (G := L.G TQ cl b kc) (b := b) ?_
  refine fn_okD (G := L.G TQ cl b kc) (k := kc + 0) (N := N_law_in_order) (r := retD) (b := b_law_in_order) F sc_law_in_order rfl (by decide) retD_ok fun cdv hcd A outer s H E C => ?_
  exact (ss_one (sp_ret (se_callTy (call_tupA C.calm) tupleO_op (by rfl) (L.free 10) bt_tuple (sl_cons (se_comp (own := [("size", 1), ("row", 2)]) C sc_law_in_order.nd (.inl rfl) (si_any C.fit (se_callB (call_sortA C.calm C.hu) sortedO_op (by rfl) (L.free 13) bt_sorted (sl_cons (se_comp (own := [("row", 2)]) C sc_law_in_order.nd (.inl rfl) (si_any C.fit (se_callTy (call_listA C.calm) listO_op (by rfl) (L.free 12) bt_list (sl_cons (se_callTy (call_dPairs C.calm C.hu) dpairsO_op (by rfl) (L.free 11) bt_dict (sl_cons (se_comp (own := [("row", 2)]) C sc_law_in_order.nd (.inl rfl) (si_any C.fit (se_var (pv 0))) (blkOk_by (by kernel_rfl)) (fun _ _ _ _ _ C => (sw_name (pg_name sc_law_in_order.nd rfl (by first | exact Or.inl rfl | exact Or.inr rfl)) (by decide))) (fun _ _ _ _ _ C => st_yes) (fun _ _ _ _ _ C => (se_tup (sl_cons (se_var (pv 2)) (sl_cons se_bool sl_nil))))) sl_nil)) sl_nil))) (blkOk_by (by kernel_rfl)) (fun _ _ _ _ _ C => (sw_name (pg_name sc_law_in_order.nd rfl (by first | exact Or.inl rfl | exact Or.inr rfl)) (by decide))) (fun _ _ _ _ _ C => st_yes) (fun _ _ _ _ _ C => (se_tup (sl_cons (se_callB call_lenA lenO_op (by rfl) (L.free 0) bt_len (sl_cons (se_var (pv 2)) sl_nil)) (sl_cons (se_var (pv 2)) sl_nil))))) sl_nil))) (blkOk_by (by kernel_rfl)) (fun _ _ _ _ _ C => (sw_tup C.fit C.calm (sws_cons (sw_name (pg_name sc_law_in_order.nd rfl (by first | exact Or.inl rfl | exact Or.inr rfl)) (by decide)) (sws_cons (sw_name (pg_name sc_law_in_order.nd rfl (by first | exact Or.inl rfl | exact Or.inr rfl)) (by decide)) sws_nil)))) (fun _ _ _ _ _ C => st_yes) (fun _ _ _ _ _ C => (se_var (pv 2)))) sl_nil))))
/-! _law_progressions -/
abbrev N_law_progressions : List Str := ["many", "long", "things", "found", "first", "step", "row", "k"]
theorem sc_law_progressions : FnScope N_law_progressions ["many", "long"] (defScope (top 44)) := ⟨rfl, rfl, rfl, by decide +kernel, rfl, by decide +kernel, by decide +kernel⟩
def b_law_progressions : Cs := (sSeq (sAsgG (gT 2 (gsCons (gN 2) (gsCons (gN 3) gsNil))) (cTup (cCons (cB tupleO (cCons (cSl (cD (.str "abcdefghi")) oN (oS (cV 0))) cNil)) (cCons (cLstM cNil) cNil)))) (sSeq (sFor (iRg1 (cCons (cV 0) cNil)) (gN 4) (sFor (iRg2 (cCons (cD (.int 1)) (cCons (cV 0) cNil))) (gN 5) (sSeq (sAsg 6 (cComp (iRg1 (cCons (cV 1) cNil)) [7] (step1 (gN 7) cYes (cOp2 (liftD addD) (cV 4) (cOp2 (liftD mulD) (cV 5) (cV 7)))) finL)) (sIf (cBl (cCmp .Lt (cSub (cV 6) (cOp1 (liftD1 negD) (cD (.int 1)))) (cV 0))) (sEx (cMe isLc (onL appG) (cV 3) (cCons (cB tupleO (cCons (cComp (iAny (cV 6)) [7] (step1 (gN 7) cYes (cSub (cV 2) (cV 7))) finL) cNil)) cNil))) sNx)))) (sRet (cTup (cCons (cV 2) (cCons (cCall f_law_in_order (aCons (cVl (cV 3)) aNil)) cNil))))))
def f_law_progressions : List DC → Mo D := frm (fnOf 8 b_law_progressions)
theorem k_law_progressions (L : LW) : ∃ fd, DefOk L TQ cl d_law_progressions (He.fAd L.K d_law_progressions.at_) fd 2 ["many", "long"] 2 f_law_progressions := by
  obtain ⟨fd, F⟩ := L.def_ 4 (d := d_law_progressions) rfl
  obtain ⟨fd_law_in_order, K_law_in_order⟩ := k_law_in_order L
  refine ⟨fd, F, FunD.bindsN F fun _ _ _ _ _ _ us hl => match us, hl with | [_, _], _ => rfl, fun b B kc => ?_⟩
  refine FnOk.frm (G := L.G TQ cl b kc) (b := b) ?_
  refine fn_okD (G := L.G TQ cl b kc) (k := kc + 1) (N := N_law_progressions) (r := retD) (b := b_law_progressions) F sc_law_progressions rfl (by decide) retD_ok fun cdv hcd A outer s H E C => ?_
  exact (ss_cons (sp_asgG (se_tup (sl_cons (se_callTy (call_tupA C.calm) tupleO_op (by rfl) (L.free 10) bt_tuple (sl_cons (se_slice C.fit se_str so_none (so_some (se_var (pv 0)))) sl_nil)) (sl_cons (se_lstM sl_nil) sl_nil))) (sg_tup C.fit C.calm (sgs_cons (sg_name sc_law_progressions.nd rfl (by first | exact Or.inl rfl | exact Or.inr rfl)) (sgs_cons (sg_name sc_law_progressions.nd rfl (by first | exact Or.inl rfl | exact Or.inr rfl)) sgs_nil))))
    (ss_cons (sp_for C (si_range1 (by rfl) (L.free 3) (sl_cons (se_var (pv 0)) sl_nil)) (sg_name sc_law_progressions.nd rfl (by first | exact Or.inl rfl | exact Or.inr rfl)) (ss_one (sp_for C (si_range2 (by rfl) (L.free 3) (sl_cons se_int (sl_cons (se_var (pv 0)) sl_nil))) (sg_name sc_law_progressions.nd rfl (by first | exact Or.inl rfl | exact Or.inr rfl)) (ss_cons (sp_asgC (own := [("k", 7)]) C sc_law_progressions.nd rfl rfl rfl (.inl rfl) (si_range1 (by rfl) (L.free 3) (sl_cons (se_var (pv 1)) sl_nil)) (blkOk_by (by kernel_rfl)) (fun _ _ _ _ _ C => (sw_name (pg_name sc_law_progressions.nd rfl (by first | exact Or.inl rfl | exact Or.inr rfl)) (by decide))) (fun _ _ _ _ _ C => st_yes) (fun _ _ _ _ _ C => (se_add C.fit (se_var (pv 4)) (se_mul C.fit (se_var (pv 5)) (se_var (pv 7))))))
    (ss_one (sp_if (st_cmp C.fit C.hu (se_sub2 C (se_var (pv 6)) (se_neg se_int)) (se_var (pv 0)) (by rfl)) (ss_one (sp_ex (se_me ms_append app_op (se_var (pv 3)) (sl_cons (se_callTy (call_tupA C.calm) tupleO_op (by rfl) (L.free 10) bt_tuple (sl_cons (se_comp (own := [("k", 7)]) C sc_law_progressions.nd (.inl rfl) (si_any C.fit (se_var (pv 6))) (blkOk_by (by kernel_rfl)) (fun _ _ _ _ _ C => (sw_name (pg_name sc_law_progressions.nd rfl (by first | exact Or.inl rfl | exact Or.inr rfl)) (by decide))) (fun _ _ _ _ _ C => st_yes) (fun _ _ _ _ _ C => (se_sub2 C (se_var (pv 2)) (se_var (pv 7))))) sl_nil)) sl_nil)))) ss_nil))))))
    (ss_one (sp_ret (se_tup (sl_cons (se_var (pv 2)) (sl_cons (se_call C ⟨rfl⟩ (K_law_in_order.ok b B kc) (by omega) (by rfl) (L.glo 14) K_law_in_order.F.kp K_law_in_order.bd (len_cons len_nil) (sa_cons (sx_val ⟨rfl⟩ (se_var (pv 3))) sa_nil)) sl_nil)))))))
/-! is_whole -/
abbrev N_is_whole : List Str := ["value"]
theorem sc_is_whole : FnScope N_is_whole ["value"] (defScope (top 12)) := ⟨rfl, rfl, rfl, by decide +kernel, rfl, by decide +kernel, by decide +kernel⟩
def b_is_whole : Cs := (sRet (cAnd (cOp1 (isTO "int") (cV 0)) (cNot (cOp1 (isTO "bool") (cV 0)))))
def f_is_whole : List DC → Mo D := frm (fnOf 1 b_is_whole)
theorem k_is_whole (L : LW) : ∃ fd, DefOk L TQ cl d_is_whole (He.fAd L.K d_is_whole.at_) fd 1 ["value"] 1 f_is_whole := by
  obtain ⟨fd, F⟩ := L.def_ 5 (d := d_is_whole) rfl
  refine ⟨fd, F, FunD.bindsN F fun _ _ _ _ _ _ us hl => match us, hl with | [_], _ => rfl, fun b B kc => ?_⟩
  refine FnOk.frm (G := L.G TQ cl b kc) (b := b) ?_
  refine fn_okD (G := L.G TQ cl b kc) (k := kc + 0) (N := N_is_whole) (r := retD) (b := b_is_whole) F sc_is_whole rfl (by decide) retD_ok fun cdv hcd A outer s H E C => ?_
  exact (ss_one (sp_ret (se_and (se_isT C.fit (insF L b kc) (by rfl) (L.free 16) (se_var (pv 0)) (by rfl) (L.free 4) bt_int) (se_one (se_not (se_isT C.fit (insF L b kc) (by rfl) (L.free 16) (se_var (pv 0)) (by rfl) (L.free 17) bt_bool))))))
/-! is_between -/
abbrev N_is_between : List Str := ["value", "least", "most"]
theorem sc_is_between : FnScope N_is_between ["value", "least", "most"] (defScope (top 13)) := ⟨rfl, rfl, rfl, by decide +kernel, rfl, by decide +kernel, by decide +kernel⟩
def b_is_between : Cs := (sRet (cAnd (cCall f_is_whole (aCons (cVl (cV 0)) aNil)) (cChain .LtE .LtE (cV 1) (cV 0) (cV 2))))
def f_is_between : List DC → Mo D := frm (fnOf 3 b_is_between)
theorem k_is_between (L : LW) : ∃ fd, DefOk L TQ cl d_is_between (He.fAd L.K d_is_between.at_) fd 2 ["value", "least", "most"] 3 f_is_between := by
  obtain ⟨fd, F⟩ := L.def_ 6 (d := d_is_between) rfl
  obtain ⟨fd_is_whole, K_is_whole⟩ := k_is_whole L
  refine ⟨fd, F, FunD.bindsN F fun _ _ _ _ _ _ us hl => match us, hl with | [_, _, _], _ => rfl, fun b B kc => ?_⟩
  refine FnOk.frm (G := L.G TQ cl b kc) (b := b) ?_
  refine fn_okD (G := L.G TQ cl b kc) (k := kc + 1) (N := N_is_between) (r := retD) (b := b_is_between) F sc_is_between rfl (by decide) retD_ok fun cdv hcd A outer s H E C => ?_
  exact (ss_one (sp_ret (se_and (se_call C ⟨rfl⟩ (K_is_whole.ok b B kc) (by omega) (by rfl) (L.glo 18) K_is_whole.F.kp K_is_whole.bd (len_cons len_nil) (sa_cons (sx_val ⟨rfl⟩ (se_var (pv 0))) sa_nil)) (se_one (se_chain C.fit C.hu (se_var (pv 1)) (se_var (pv 0)) (se_var (pv 2)) (by rfl))))))
/-! check_number -/
abbrev N_check_number : List Str := ["number", "least", "most"]
theorem sc_check_number : FnScope N_check_number ["number", "least", "most"] (defScope (top 27)) := ⟨rfl, rfl, rfl, by decide +kernel, rfl, by decide +kernel, by decide +kernel⟩
def b_check_number : Cs := (sIf (cNotT (cTru (cCall f_is_between (aCons (cVl (cV 0)) (aCons (cVl (cV 1)) (aCons (cVl (cV 2)) aNil)))))) sNo sNx)
def f_check_number : List DC → Mo D := frm (fnOf 3 b_check_number)
theorem k_check_number (L : LW) : ∃ fd, DefOk L TQ cl d_check_number (He.fAd L.K d_check_number.at_) fd 3 ["number", "least", "most"] 3 f_check_number := by
  obtain ⟨fd, F⟩ := L.def_ 7 (d := d_check_number) rfl
  obtain ⟨fd_is_between, K_is_between⟩ := k_is_between L
  refine ⟨fd, F, FunD.bindsN F fun _ _ _ _ _ _ us hl => match us, hl with | [_, _, _], _ => rfl, fun b B kc => ?_⟩
  refine FnOk.frm (G := L.G TQ cl b kc) (b := b) ?_
  refine fn_okD (G := L.G TQ cl b kc) (k := kc + 2) (N := N_check_number) (r := retD) (b := b_check_number) F sc_check_number rfl (by decide) retD_ok fun cdv hcd A outer s H E C => ?_
  exact (ss_one (sp_if (st_not (st_tru C.fit (se_call C ⟨rfl⟩ (K_is_between.ok b B kc) (by omega) (by rfl) (L.glo 19) K_is_between.F.kp K_is_between.bd (len_cons (len_cons (len_cons len_nil))) (sa_cons (sx_val ⟨rfl⟩ (se_var (pv 0))) (sa_cons (sx_val ⟨rfl⟩ (se_var (pv 1))) (sa_cons (sx_val ⟨rfl⟩ (se_var (pv 2))) sa_nil)))) (by intro _; rfl))) (ss_one sp_no) ss_nil))
/-! wrong_in -/
abbrev N_wrong_in : List Str := ["value", "least", "most", "is_right", "index", "each"]
theorem sc_wrong_in : FnScope N_wrong_in ["value", "least", "most", "is_right"] (defScope (top 17)) := ⟨rfl, rfl, rfl, by decide +kernel, rfl, by decide +kernel, by decide +kernel⟩
def b_wrong_in : Cs := (sSeq (sIf (cOrT (cNotT (cTru (cOp1 (isTO "tuple") (cV 0)))) (cBl (cCmp .Lt (cB lenO (cCons (cV 0) cNil)) (cV 1)))) (sRet (cLst (cCons (cD .none) cNil))) sNx) (sSeq (sFor (iEnumD (cCons (cV 0) cNil)) (gT 2 (gsCons (gN 4) (gsCons (gN 5) gsNil))) (sIf (cOrT (cBl (cCmp .Eq (cV 4) (cV 2))) (cNotT (cTru (cCallL 3 (cCons (cSl (cV 0) oN (oS (cV 4))) (cCons (cV 5) cNil)))))) (sRet (cLst (cCons (cV 4) cNil))) sNx)) (sRet (cLst cNil))))
def f_wrong_in : List DC → Mo D := frm (fnOf 6 b_wrong_in)
theorem k_wrong_in (L : LW) : ∃ fd, DefOk L TQ cl d_wrong_in (He.fAd L.K d_wrong_in.at_) fd 1 ["value", "least", "most", "is_right"] 4 f_wrong_in := by
  obtain ⟨fd, F⟩ := L.def_ 8 (d := d_wrong_in) rfl
  refine ⟨fd, F, FunD.bindsN F fun _ _ _ _ _ _ us hl => match us, hl with | [_, _, _, _], _ => rfl, fun b B kc => ?_⟩
  refine FnOk.frm (G := L.G TQ cl b kc) (b := b) ?_
  refine fn_okD (G := L.G TQ cl b kc) (k := kc + 0) (N := N_wrong_in) (r := retD) (b := b_wrong_in) F sc_wrong_in rfl (by decide) retD_ok fun cdv hcd A outer s H E C => ?_
  exact (ss_cons (sp_if (st_w (sw_or (st_not (st_tru C.fit (se_isT C.fit (insF L b kc) (by rfl) (L.free 16) (se_var (pv 0)) (by rfl) (L.free 10) bt_tuple) (by intro _; rfl))) (sw_or1 (st_cmp C.fit C.hu (se_callB call_lenA lenO_op (by rfl) (L.free 0) bt_len (sl_cons (se_var (pv 0)) sl_nil)) (se_var (pv 1)) (by rfl))))) (ss_one (sp_ret (se_lst (sl_cons se_none sl_nil)))) ss_nil)
    (ss_cons (sp_for C (si_enum C.fit (by rfl) (L.free 23) (sl_cons (se_var (pv 0)) sl_nil)) (sg_tup C.fit C.calm (sgs_cons (sg_name sc_wrong_in.nd rfl (by first | exact Or.inl rfl | exact Or.inr rfl)) (sgs_cons (sg_name sc_wrong_in.nd rfl (by first | exact Or.inl rfl | exact Or.inr rfl)) sgs_nil))) (ss_one (sp_if (st_w (sw_or (st_cmp C.fit C.hu (se_var (pv 4)) (se_var (pv 2)) (by rfl)) (sw_or1 (st_not (st_tru C.fit (se_callL (i := 3) C rfl (Nat.le_add_right _ _) rfl (by first | exact Or.inl rfl | exact Or.inr (Or.inl rfl) | exact Or.inr (Or.inr rfl)) (sl_cons (se_slice C.fit (se_var (pv 0)) so_none (so_some (se_var (pv 4)))) (sl_cons (se_var (pv 5)) sl_nil))) (by intro _; rfl)))))) (ss_one (sp_ret (se_lst (sl_cons (se_var (pv 4)) sl_nil)))) ss_nil)))
    (ss_one (sp_ret (se_lst sl_nil)))))
/-! is_word -/
abbrev N_is_word : List Str := ["value", "sign"]
theorem sc_is_word : FnScope N_is_word ["value"] (defScope (top 15)) := ⟨rfl, rfl, rfl, by decide +kernel, rfl, by decide +kernel, by decide +kernel⟩
def b_is_word : Cs := (sRet (cAnd (cOp1 (isTO "str") (cV 0)) (cAnd (cCmp .NotEq (cV 0) (cD (.str ""))) (cB allO (cCons (cComp (iAny (cV 0)) [1] (step1 (gN 1) cYes (cIn false (cV 1) (cD (.str "abcdefghijklmnopqrstuvwxyz")))) finL) cNil)))))
def f_is_word : List DC → Mo D := frm (fnOf 2 b_is_word)
theorem k_is_word (L : LW) : ∃ fd, DefOk L TQ cl d_is_word (He.fAd L.K d_is_word.at_) fd 1 ["value"] 1 f_is_word := by
  obtain ⟨fd, F⟩ := L.def_ 9 (d := d_is_word) rfl
  refine ⟨fd, F, FunD.bindsN F fun _ _ _ _ _ _ us hl => match us, hl with | [_], _ => rfl, fun b B kc => ?_⟩
  refine FnOk.frm (G := L.G TQ cl b kc) (b := b) ?_
  refine fn_okD (G := L.G TQ cl b kc) (k := kc + 0) (N := N_is_word) (r := retD) (b := b_is_word) F sc_is_word rfl (by decide) retD_ok fun cdv hcd A outer s H E C => ?_
  exact (ss_one (sp_ret (se_and (se_isT C.fit (insF L b kc) (by rfl) (L.free 16) (se_var (pv 0)) (by rfl) (L.free 24) bt_str) (se_and (se_cmpA C.fit C.hu (se_var (pv 0)) se_str (by rfl)) (se_one (se_callB (cr_all C.calm) allO_op (by rfl) (L.free 26) bt_all (sl_cons (se_comp (own := [("sign", 1)]) C sc_is_word.nd (.inl rfl) (si_any C.fit (se_var (pv 0))) (blkOk_by (by kernel_rfl)) (fun _ _ _ _ _ C => (sw_name (pg_name sc_is_word.nd rfl (by first | exact Or.inl rfl | exact Or.inr rfl)) (by decide))) (fun _ _ _ _ _ C => st_yes) (fun _ _ _ _ _ C => (se_in C (se_var (pv 1)) (se_gstr (by rfl) (L.str 25))))) sl_nil)))))))
/-! is_name -/
abbrev N_is_name : List Str := ["value"]
theorem sc_is_name : FnScope N_is_name ["value"] (defScope (top 16)) := ⟨rfl, rfl, rfl, by decide +kernel, rfl, by decide +kernel, by decide +kernel⟩
def b_is_name : Cs := (sRet (cAnd (cCall f_is_word (aCons (cVl (cV 0)) aNil)) (cAnd (cCmp .LtE (cB lenO (cCons (cV 0) cNil)) (cD (.int 8))) (cIn true (cV 0) (cD (.tuple (cn_WORDS.map Cn.d)))))))
def f_is_name : List DC → Mo D := frm (fnOf 1 b_is_name)
theorem k_is_name (L : LW) : ∃ fd, DefOk L TQ cl d_is_name (He.fAd L.K d_is_name.at_) fd 2 ["value"] 1 f_is_name := by
  obtain ⟨fd, F⟩ := L.def_ 10 (d := d_is_name) rfl
  obtain ⟨fd_is_word, K_is_word⟩ := k_is_word L
  refine ⟨fd, F, FunD.bindsN F fun _ _ _ _ _ _ us hl => match us, hl with | [_], _ => rfl, fun b B kc => ?_⟩
  refine FnOk.frm (G := L.G TQ cl b kc) (b := b) ?_
  refine fn_okD (G := L.G TQ cl b kc) (k := kc + 1) (N := N_is_name) (r := retD) (b := b_is_name) F sc_is_name rfl (by decide) retD_ok fun cdv hcd A outer s H E C => ?_
  exact (ss_one (sp_ret (se_and (se_call C ⟨rfl⟩ (K_is_word.ok b B kc) (by omega) (by rfl) (L.glo 27) K_is_word.F.kp K_is_word.bd (len_cons len_nil) (sa_cons (sx_val ⟨rfl⟩ (se_var (pv 0))) sa_nil)) (se_and (se_cmpA C.fit C.hu (se_callB call_lenA lenO_op (by rfl) (L.free 0) bt_len (sl_cons (se_var (pv 0)) sl_nil)) (se_gint (by rfl) (L.int 28)) (by rfl)) (se_one (se_nin C (se_var (pv 0)) (se_gtup (K := L.K) cn_WORDS rfl (by rfl) (L.glo 29) (L.ex 0))))))))
/-! are_below -/
abbrev N_are_below : List Str := ["ahead", "value"]
theorem sc_are_below : FnScope N_are_below ["ahead", "value"] (defScope (top 18)) := ⟨rfl, rfl, rfl, by decide +kernel, rfl, by decide +kernel, by decide +kernel⟩
def b_are_below : Cs := (sRet (cOr (cCmp .Eq (cV 0) (cTup cNil)) (cCmp .Lt (cSub (cV 0) (cOp1 (liftD1 negD) (cD (.int 1)))) (cV 1))))
def f_are_below : List DC → Mo D := frm (fnOf 2 b_are_below)
theorem k_are_below (L : LW) : ∃ fd, DefOk L TQ cl d_are_below (He.fAd L.K d_are_below.at_) fd 1 ["ahead", "value"] 2 f_are_below := by
  obtain ⟨fd, F⟩ := L.def_ 11 (d := d_are_below) rfl
  refine ⟨fd, F, FunD.bindsN F fun _ _ _ _ _ _ us hl => match us, hl with | [_, _], _ => rfl, fun b B kc => ?_⟩
  refine FnOk.frm (G := L.G TQ cl b kc) (b := b) ?_
  refine fn_okD (G := L.G TQ cl b kc) (k := kc + 0) (N := N_are_below) (r := retD) (b := b_are_below) F sc_are_below rfl (by decide) retD_ok fun cdv hcd A outer s H E C => ?_
  exact (ss_one (sp_ret (se_or (se_cmpA C.fit C.hu (se_var (pv 0)) (se_tup sl_nil) (by rfl)) (se_one (se_cmpA C.fit C.hu (se_sub2 C (se_var (pv 0)) (se_neg se_int)) (se_var (pv 1)) (by rfl))))))
/-! wrong_in_things -/
abbrev N_wrong_in_things : List Str := ["value"]
theorem sc_wrong_in_things : FnScope N_wrong_in_things ["value"] (defScope (top 23)) := ⟨rfl, rfl, rfl, by decide +kernel, rfl, by decide +kernel, by decide +kernel⟩
def N_lam_wrong_in_things_53_43 : List Str := ["ahead", "each"]
def l_lam_wrong_in_things_53_43 : Ev → Mo D := (cAnd (cCall f_is_name (aCons (cVl (cV 1)) aNil)) (cCall f_are_below (aCons (cVl (cV 0)) (aCons (cVl (cV 1)) aNil))))
def b_wrong_in_things : Cs := (sRet (cCall f_wrong_in (aCons (cVl (cV 0)) (aCons (cVl (cD (.int 1))) (aCons (cVl (cD (.int 9))) (aCons (cLam 2 2 l_lam_wrong_in_things_53_43 []) aNil))))))
def f_wrong_in_things : List DC → Mo D := frm (fnOf 1 b_wrong_in_things)
theorem k_wrong_in_things (L : LW) : ∃ fd, DefOk L TQ cl d_wrong_in_things (He.fAd L.K d_wrong_in_things.at_) fd 5 ["value"] 1 f_wrong_in_things := by
  obtain ⟨fd, F⟩ := L.def_ 12 (d := d_wrong_in_things) rfl
  obtain ⟨fd_wrong_in, K_wrong_in⟩ := k_wrong_in L
  obtain ⟨fd_is_name, K_is_name⟩ := k_is_name L
  obtain ⟨fd_are_below, K_are_below⟩ := k_are_below L
  refine ⟨fd, F, FunD.bindsN F fun _ _ _ _ _ _ us hl => match us, hl with | [_], _ => rfl, fun b B kc => ?_⟩
  refine FnOk.frm (G := L.G TQ cl b kc) (b := b) ?_
  refine fn_okD (G := L.G TQ cl b kc) (k := kc + 4) (N := N_wrong_in_things) (r := retD) (b := b_wrong_in_things) F sc_wrong_in_things rfl (by decide) retD_ok fun cdv hcd A outer s H E C => ?_
  exact (ss_one (sp_ret (se_callQ (kc := kc + 3) C rfl (fun _ => rfl) (fun b' x => K_wrong_in.ok b' (B.ext x) (kc + 3)) (by omega) (by rfl) (L.glo 33) K_wrong_in.F.kp K_wrong_in.bd (len_cons (len_cons (len_cons (len_cons len_nil)))) (sQ_cons (sq_val (se_var (pv 0))) (sQ_cons (sq_val se_int) (sQ_cons (sq_val (se_gint (by rfl) (L.int 32))) (sQ_cons (sq_lam (k := kc + 2) (ps := ["ahead", "each"]) (fr := []) (js := []) (N := N_lam_wrong_in_things_53_43) C.fit rfl (Lw.Bs.at L B 0) (code_at F hcd) (tabs_mem 0) (tabs_u (L.ex 1) 0) rfl (NdefX.nscope_by (by kernel_rfl)) (free_by (by kernel_rfl)) (frs_by (by kernel_rfl)) rfl (fun _ _ _ _ _ us hl => match us, hl with | [_, _], _ => rfl) (Nat.le_add_right _ _) (fun b x _ _ _ _ _ _ _ C => have B := Lw.Bs.ext B x; (se_and (se_call C ⟨rfl⟩ (K_is_name.ok b B kc) (by omega) (by rfl) (L.glo 30) K_is_name.F.kp K_is_name.bd (len_cons len_nil) (sa_cons (sx_val ⟨rfl⟩ (se_var (pv 1))) sa_nil)) (se_one (se_call C ⟨rfl⟩ (K_are_below.ok b B kc) (by omega) (by rfl) (L.glo 31) K_are_below.F.kp K_are_below.bd (len_cons (len_cons len_nil)) (sa_cons (sx_val ⟨rfl⟩ (se_var (pv 0))) (sa_cons (sx_val ⟨rfl⟩ (se_var (pv 1))) sa_nil))))))) sQ_nil)))))))
/-! is_one_of -/
abbrev N_is_one_of : List Str := ["value", "words"]
theorem sc_is_one_of : FnScope N_is_one_of ["value", "words"] (defScope (top 14)) := ⟨rfl, rfl, rfl, by decide +kernel, rfl, by decide +kernel, by decide +kernel⟩
def b_is_one_of : Cs := (sRet (cAnd (cOp1 (isTO "str") (cV 0)) (cIn false (cV 0) (cV 1))))
def f_is_one_of : List DC → Mo D := frm (fnOf 2 b_is_one_of)
theorem k_is_one_of (L : LW) : ∃ fd, DefOk L TQ cl d_is_one_of (He.fAd L.K d_is_one_of.at_) fd 1 ["value", "words"] 2 f_is_one_of := by
  obtain ⟨fd, F⟩ := L.def_ 13 (d := d_is_one_of) rfl
  refine ⟨fd, F, FunD.bindsN F fun _ _ _ _ _ _ us hl => match us, hl with | [_, _], _ => rfl, fun b B kc => ?_⟩
  refine FnOk.frm (G := L.G TQ cl b kc) (b := b) ?_
  refine fn_okD (G := L.G TQ cl b kc) (k := kc + 0) (N := N_is_one_of) (r := retD) (b := b_is_one_of) F sc_is_one_of rfl (by decide) retD_ok fun cdv hcd A outer s H E C => ?_
  exact (ss_one (sp_ret (se_and (se_isT C.fit (insF L b kc) (by rfl) (L.free 16) (se_var (pv 0)) (by rfl) (L.free 24) bt_str) (se_one (se_in C (se_var (pv 0)) (se_var (pv 1)))))))
/-! is_set_of_names -/
abbrev N_is_set_of_names : List Str := ["value", "names"]
theorem sc_is_set_of_names : FnScope N_is_set_of_names ["value", "names"] (defScope (top 19)) := ⟨rfl, rfl, rfl, by decide +kernel, rfl, by decide +kernel, by decide +kernel⟩
def N_lam_is_set_of_names_48_42 : List Str := ["ahead", "each", "names"]
def l_lam_is_set_of_names_48_42 : Ev → Mo D := (cAnd (cCall f_is_one_of (aCons (cVl (cV 1)) (aCons (cVl (cV 2)) aNil))) (cCall f_are_below (aCons (cVl (cV 0)) (aCons (cVl (cV 1)) aNil))))
def b_is_set_of_names : Cs := (sRet (cCmp .Eq (cCall f_wrong_in (aCons (cVl (cV 0)) (aCons (cVl (cD (.int 0))) (aCons (cVl (cB lenO (cCons (cV 1) cNil))) (aCons (cLam 2 3 l_lam_is_set_of_names_48_42 [1]) aNil))))) (cLst cNil)))
def f_is_set_of_names : List DC → Mo D := frm (fnOf 2 b_is_set_of_names)
theorem k_is_set_of_names (L : LW) : ∃ fd, DefOk L TQ cl d_is_set_of_names (He.fAd L.K d_is_set_of_names.at_) fd 4 ["value", "names"] 2 f_is_set_of_names := by
  obtain ⟨fd, F⟩ := L.def_ 14 (d := d_is_set_of_names) rfl
  obtain ⟨fd_wrong_in, K_wrong_in⟩ := k_wrong_in L
  obtain ⟨fd_is_one_of, K_is_one_of⟩ := k_is_one_of L
  obtain ⟨fd_are_below, K_are_below⟩ := k_are_below L
  refine ⟨fd, F, FunD.bindsN F fun _ _ _ _ _ _ us hl => match us, hl with | [_, _], _ => rfl, fun b B kc => ?_⟩
  refine FnOk.frm (G := L.G TQ cl b kc) (b := b) ?_
  refine fn_okD (G := L.G TQ cl b kc) (k := kc + 3) (N := N_is_set_of_names) (r := retD) (b := b_is_set_of_names) F sc_is_set_of_names rfl (by decide) retD_ok fun cdv hcd A outer s H E C => ?_
  exact (ss_one (sp_ret (se_cmpA C.fit C.hu (se_callQ (kc := kc + 2) C rfl (fun _ => rfl) (fun b' x => K_wrong_in.ok b' (B.ext x) (kc + 2)) (by omega) (by rfl) (L.glo 33) K_wrong_in.F.kp K_wrong_in.bd (len_cons (len_cons (len_cons (len_cons len_nil)))) (sQ_cons (sq_val (se_var (pv 0))) (sQ_cons (sq_val se_int) (sQ_cons (sq_val (se_callB call_lenA lenO_op (by rfl) (L.free 0) bt_len (sl_cons (se_var (pv 1)) sl_nil))) (sQ_cons (sq_lam (k := kc + 1) (ps := ["ahead", "each"]) (fr := ["names"]) (js := [1]) (N := N_lam_is_set_of_names_48_42) C.fit rfl (Lw.Bs.at L B 1) (code_at F hcd) (tabs_mem 1) (tabs_u (L.ex 1) 1) rfl (NdefX.nscope_by (by kernel_rfl)) (free_by (by kernel_rfl)) (frs_by (by kernel_rfl)) rfl (fun _ _ _ _ _ us hl => match us, hl with | [_, _], _ => rfl) (Nat.le_add_right _ _) (fun b x _ _ _ _ _ _ _ C => have B := Lw.Bs.ext B x; (se_and (se_call C ⟨rfl⟩ (K_is_one_of.ok b B kc) (by omega) (by rfl) (L.glo 35) K_is_one_of.F.kp K_is_one_of.bd (len_cons (len_cons len_nil)) (sa_cons (sx_val ⟨rfl⟩ (se_var (pv 1))) (sa_cons (sx_val ⟨rfl⟩ (se_var (pv 2))) sa_nil))) (se_one (se_call C ⟨rfl⟩ (K_are_below.ok b B kc) (by omega) (by rfl) (L.glo 31) K_are_below.F.kp K_are_below.bd (len_cons (len_cons len_nil)) (sa_cons (sx_val ⟨rfl⟩ (se_var (pv 0))) (sa_cons (sx_val ⟨rfl⟩ (se_var (pv 1))) sa_nil))))))) sQ_nil))))) (se_lst sl_nil) (by rfl))))
/-! set_order -/
abbrev N_set_order : List Str := ["lot"]
theorem sc_set_order : FnScope N_set_order ["lot"] (defScope (top 6)) := ⟨rfl, rfl, rfl, by decide +kernel, rfl, by decide +kernel, by decide +kernel⟩
def b_set_order : Cs := (sRet (cTup (cCons (cB lenO (cCons (cV 0) cNil)) (cCons (cV 0) cNil))))
def f_set_order : List DC → Mo D := frm (fnOf 1 b_set_order)
theorem k_set_order (L : LW) : ∃ fd, DefOk L TQ cl d_set_order (He.fAd L.K d_set_order.at_) fd 1 ["lot"] 1 f_set_order := by
  obtain ⟨fd, F⟩ := L.def_ 15 (d := d_set_order) rfl
  refine ⟨fd, F, FunD.bindsN F fun _ _ _ _ _ _ us hl => match us, hl with | [_], _ => rfl, fun b B kc => ?_⟩
  refine FnOk.frm (G := L.G TQ cl b kc) (b := b) ?_
  refine fn_okD (G := L.G TQ cl b kc) (k := kc + 0) (N := N_set_order) (r := retD) (b := b_set_order) F sc_set_order rfl (by decide) retD_ok fun cdv hcd A outer s H E C => ?_
  exact (ss_one (sp_ret (se_tup (sl_cons (se_callB call_lenA lenO_op (by rfl) (L.free 0) bt_len (sl_cons (se_var (pv 0)) sl_nil)) (sl_cons (se_var (pv 0)) sl_nil)))))
/-! wrong_in_rows -/
abbrev N_wrong_in_rows : List Str := ["things", "value"]
theorem sc_wrong_in_rows : FnScope N_wrong_in_rows ["things", "value"] (defScope (top 24)) := ⟨rfl, rfl, rfl, by decide +kernel, rfl, by decide +kernel, by decide +kernel⟩
def N_lam_wrong_in_rows_55_41 : List Str := ["ahead", "each", "things"]
def l_lam_wrong_in_rows_55_41 : Ev → Mo D := (cAnd (cCall f_is_set_of_names (aCons (cVl (cV 1)) (aCons (cVl (cV 2)) aNil))) (cAnd (cCmp .NotEq (cV 1) (cTup cNil)) (cOr (cCmp .Eq (cV 0) (cTup cNil)) (cCmp .Lt (cCall f_set_order (aCons (cVl (cSub (cV 0) (cOp1 (liftD1 negD) (cD (.int 1))))) aNil)) (cCall f_set_order (aCons (cVl (cV 1)) aNil))))))
def b_wrong_in_rows : Cs := (sRet (cCall f_wrong_in (aCons (cVl (cV 1)) (aCons (cVl (cD (.int 0))) (aCons (cVl (cD (.int 40))) (aCons (cLam 2 3 l_lam_wrong_in_rows_55_41 [0]) aNil))))))
def f_wrong_in_rows : List DC → Mo D := frm (fnOf 2 b_wrong_in_rows)
theorem k_wrong_in_rows (L : LW) : ∃ fd, DefOk L TQ cl d_wrong_in_rows (He.fAd L.K d_wrong_in_rows.at_) fd 7 ["things", "value"] 2 f_wrong_in_rows := by
  obtain ⟨fd, F⟩ := L.def_ 16 (d := d_wrong_in_rows) rfl
  obtain ⟨fd_wrong_in, K_wrong_in⟩ := k_wrong_in L
  obtain ⟨fd_is_set_of_names, K_is_set_of_names⟩ := k_is_set_of_names L
  obtain ⟨fd_set_order, K_set_order⟩ := k_set_order L
  refine ⟨fd, F, FunD.bindsN F fun _ _ _ _ _ _ us hl => match us, hl with | [_, _], _ => rfl, fun b B kc => ?_⟩
  refine FnOk.frm (G := L.G TQ cl b kc) (b := b) ?_
  refine fn_okD (G := L.G TQ cl b kc) (k := kc + 6) (N := N_wrong_in_rows) (r := retD) (b := b_wrong_in_rows) F sc_wrong_in_rows rfl (by decide) retD_ok fun cdv hcd A outer s H E C => ?_
  exact (ss_one (sp_ret (se_callQ (kc := kc + 5) C rfl (fun _ => rfl) (fun b' x => K_wrong_in.ok b' (B.ext x) (kc + 5)) (by omega) (by rfl) (L.glo 33) K_wrong_in.F.kp K_wrong_in.bd (len_cons (len_cons (len_cons (len_cons len_nil)))) (sQ_cons (sq_val (se_var (pv 1))) (sQ_cons (sq_val se_int) (sQ_cons (sq_val (se_gint (by rfl) (L.int 38))) (sQ_cons (sq_lam (k := kc + 4) (ps := ["ahead", "each"]) (fr := ["things"]) (js := [0]) (N := N_lam_wrong_in_rows_55_41) C.fit rfl (Lw.Bs.at L B 2) (code_at F hcd) (tabs_mem 2) (tabs_u (L.ex 1) 2) rfl (NdefX.nscope_by (by kernel_rfl)) (free_by (by kernel_rfl)) (frs_by (by kernel_rfl)) rfl (fun _ _ _ _ _ us hl => match us, hl with | [_, _], _ => rfl) (Nat.le_add_right _ _) (fun b x _ _ _ _ _ _ _ C => have B := Lw.Bs.ext B x; (se_and (se_call C ⟨rfl⟩ (K_is_set_of_names.ok b B kc) (by omega) (by rfl) (L.glo 36) K_is_set_of_names.F.kp K_is_set_of_names.bd (len_cons (len_cons len_nil)) (sa_cons (sx_val ⟨rfl⟩ (se_var (pv 1))) (sa_cons (sx_val ⟨rfl⟩ (se_var (pv 2))) sa_nil))) (se_and (se_cmpA C.fit C.hu (se_var (pv 1)) (se_tup sl_nil) (by rfl)) (se_one (se_or (se_cmpA C.fit C.hu (se_var (pv 0)) (se_tup sl_nil) (by rfl)) (se_one (se_cmpA C.fit C.hu (se_call C ⟨rfl⟩ (K_set_order.ok b B kc) (by omega) (by rfl) (L.glo 37) K_set_order.F.kp K_set_order.bd (len_cons len_nil) (sa_cons (sx_val ⟨rfl⟩ (se_sub2 C (se_var (pv 0)) (se_neg se_int))) sa_nil)) (se_call C ⟨rfl⟩ (K_set_order.ok b B kc) (by omega) (by rfl) (L.glo 37) K_set_order.F.kp K_set_order.bd (len_cons len_nil) (sa_cons (sx_val ⟨rfl⟩ (se_var (pv 1))) sa_nil)) (by rfl))))))))) sQ_nil)))))))
/-! Lots.__init__ -/
abbrev N_Lots_init : List Str := ["self", "things", "rows", "index"]
theorem sc_Lots_init : FnScope N_Lots_init ["self", "things", "rows"] (defScope (inCls (top 26) 0)) := ⟨rfl, rfl, rfl, by decide +kernel, rfl, by decide +kernel, by decide +kernel⟩
def b_Lots_init : Cs := (sSeq (sFor (iAny (cCall f_wrong_in_things (aCons (cVl (cV 1)) aNil))) (gN 3) sNo) (sSeq (sFor (iAny (cCall f_wrong_in_rows (aCons (cVl (cV 1)) (aCons (cVl (cV 2)) aNil)))) (gN 3) sNo) (sFldZ cl "all_told" (cV 0) (cTup (cCons (cV 1) (cCons (cV 2) cNil))))))
def f_Lots_init : List DC → Mo D := frm (fnOf 4 b_Lots_init)
theorem k_Lots_init (L : LW) : ∃ fd, DefOk L TQ cl d_Lots_init (He.fAd L.K d_Lots_init.at_) fd 8 ["self", "things", "rows"] 3 f_Lots_init := by
  obtain ⟨fd, F⟩ := L.def_ 17 (d := d_Lots_init) rfl
  obtain ⟨fd_wrong_in_things, K_wrong_in_things⟩ := k_wrong_in_things L
  obtain ⟨fd_wrong_in_rows, K_wrong_in_rows⟩ := k_wrong_in_rows L
  refine ⟨fd, F, FunD.bindsN F fun _ _ _ _ _ _ us hl => match us, hl with | [_, _, _], _ => rfl, fun b B kc => ?_⟩
  refine FnOk.frm (G := L.G TQ cl b kc) (b := b) ?_
  refine fn_okD (G := L.G TQ cl b kc) (k := kc + 7) (N := N_Lots_init) (r := retD) (b := b_Lots_init) F sc_Lots_init rfl (by decide) retD_ok fun cdv hcd A outer s H E C => ?_
  exact (ss_cons (sp_for C (si_any C.fit (se_call C ⟨rfl⟩ (K_wrong_in_things.ok b B kc) (by omega) (by rfl) (L.glo 34) K_wrong_in_things.F.kp K_wrong_in_things.bd (len_cons len_nil) (sa_cons (sx_val ⟨rfl⟩ (se_var (pv 1))) sa_nil))) (sg_name sc_Lots_init.nd rfl (by first | exact Or.inl rfl | exact Or.inr rfl)) (ss_one sp_no))
    (ss_cons (sp_for C (si_any C.fit (se_call C ⟨rfl⟩ (K_wrong_in_rows.ok b B kc) (by omega) (by rfl) (L.glo 39) K_wrong_in_rows.F.kp K_wrong_in_rows.bd (len_cons (len_cons len_nil)) (sa_cons (sx_val ⟨rfl⟩ (se_var (pv 1))) (sa_cons (sx_val ⟨rfl⟩ (se_var (pv 2))) sa_nil)))) (sg_name sc_Lots_init.nd rfl (by first | exact Or.inl rfl | exact Or.inr rfl)) (ss_one sp_no))
    (ss_one (sp_fld C (na_all_told L b kc) (se_var (pv 0)) (se_tup (sl_cons (se_var (pv 1)) (sl_cons (se_var (pv 2)) sl_nil)))))))
/-! in_order -/
abbrev N_in_order : List Str := ["lots", "lot"]
theorem sc_in_order : FnScope N_in_order ["lots"] (defScope (top 7)) := ⟨rfl, rfl, rfl, by decide +kernel, rfl, by decide +kernel, by decide +kernel⟩
def b_in_order : Cs := (sRet (cB tupleO (cCons (cSortK (cCompD (iAny (cV 0)) [1] (stepD (gN 1) cYes (cV 1) (cD (.bool true)))) (cDef f_set_order 1)) cNil)))
def f_in_order : List DC → Mo D := frm (fnOf 2 b_in_order)
theorem k_in_order (L : LW) : ∃ fd, DefOk L TQ cl d_in_order (He.fAd L.K d_in_order.at_) fd 3 ["lots"] 1 f_in_order := by
  obtain ⟨fd, F⟩ := L.def_ 18 (d := d_in_order) rfl
  obtain ⟨fd_set_order, K_set_order⟩ := k_set_order L
  refine ⟨fd, F, FunD.bindsN F fun _ _ _ _ _ _ us hl => match us, hl with | [_], _ => rfl, fun b B kc => ?_⟩
  refine FnOk.frm (G := L.G TQ cl b kc) (b := b) ?_
  refine fn_okD (G := L.G TQ cl b kc) (k := kc + 2) (N := N_in_order) (r := retD) (b := b_in_order) F sc_in_order rfl (by decide) retD_ok fun cdv hcd A outer s H E C => ?_
  exact (ss_one (sp_ret (se_callTy (call_tupA C.calm) tupleO_op (by rfl) (L.free 10) bt_tuple (sl_cons (se_sortK (kc := kc + 1) C (fun _ => rfl) (by omega) (by rfl) (L.free 13) (se_dcomp (own := [("lot", 1)]) C sc_in_order.nd (si_any C.fit (se_var (pv 0))) (blkOk_by (by kernel_rfl)) (fun _ _ _ _ _ C => (sw_name (pg_name sc_in_order.nd rfl (by first | exact Or.inl rfl | exact Or.inr rfl)) (by decide))) (fun _ _ _ _ _ C => st_yes) (fun _ _ _ _ _ C => (se_var (pv 1))) (fun _ _ _ _ _ C => se_bool)) (sq_def (k := kc) C.fit rfl (by rfl) (L.glo 37) (fun_look K_set_order.F).choose_spec.choose_spec.choose_spec (fun b' x => K_set_order.ok b' (B.ext x) kc) rfl (by omega) K_set_order.bd)) sl_nil))))
/-! names_of -/
abbrev N_names_of : List Str := ["numbers", "number"]
theorem sc_names_of : FnScope N_names_of ["numbers"] (defScope (top 30)) := ⟨rfl, rfl, rfl, by decide +kernel, rfl, by decide +kernel, by decide +kernel⟩
def b_names_of : Cs := (sRet (cB tupleO (cCons (cB sortedO (cCons (cComp (iAny (cV 0)) [1] (step1 (gN 1) cYes (cSub (cD (.str "abcdefghi")) (cOp2 (liftD subD) (cV 1) (cD (.int 1))))) finL) cNil)) cNil)))
def f_names_of : List DC → Mo D := frm (fnOf 2 b_names_of)
theorem k_names_of (L : LW) : ∃ fd, DefOk L TQ cl d_names_of (He.fAd L.K d_names_of.at_) fd 1 ["numbers"] 1 f_names_of := by
  obtain ⟨fd, F⟩ := L.def_ 19 (d := d_names_of) rfl
  refine ⟨fd, F, FunD.bindsN F fun _ _ _ _ _ _ us hl => match us, hl with | [_], _ => rfl, fun b B kc => ?_⟩
  refine FnOk.frm (G := L.G TQ cl b kc) (b := b) ?_
  refine fn_okD (G := L.G TQ cl b kc) (k := kc + 0) (N := N_names_of) (r := retD) (b := b_names_of) F sc_names_of rfl (by decide) retD_ok fun cdv hcd A outer s H E C => ?_
  exact (ss_one (sp_ret (se_callTy (call_tupA C.calm) tupleO_op (by rfl) (L.free 10) bt_tuple (sl_cons (se_callB (call_sortA C.calm C.hu) sortedO_op (by rfl) (L.free 13) bt_sorted (sl_cons (se_comp (own := [("number", 1)]) C sc_names_of.nd (.inl rfl) (si_any C.fit (se_var (pv 0))) (blkOk_by (by kernel_rfl)) (fun _ _ _ _ _ C => (sw_name (pg_name sc_names_of.nd rfl (by first | exact Or.inl rfl | exact Or.inr rfl)) (by decide))) (fun _ _ _ _ _ C => st_yes) (fun _ _ _ _ _ C => (se_sub2 C (se_gstr (by rfl) (L.str 40)) (se_sub (se_var (pv 1)) se_int)))) sl_nil)) sl_nil))))
/-! lots_with -/
abbrev N_lots_with : List Str := ["many", "rows", "row"]
theorem sc_lots_with : FnScope N_lots_with ["many", "rows"] (defScope (top 31)) := ⟨rfl, rfl, rfl, by decide +kernel, rfl, by decide +kernel, by decide +kernel⟩
def b_lots_with : Cs := (sRet (cMake "Lots" true f_Lots_init (cCons (cB tupleO (cCons (cSl (cD (.str "abcdefghi")) oN (oS (cV 0))) cNil)) (cCons (cCall f_in_order (aCons (cVl (cComp (iAny (cV 1)) [2] (step1 (gN 2) cYes (cCall f_names_of (aCons (cVl (cV 2)) aNil))) finL)) aNil)) cNil))))
def f_lots_with : List DC → Mo D := frm (fnOf 3 b_lots_with)
theorem k_lots_with (L : LW) : ∃ fd, DefOk L TQ cl d_lots_with (He.fAd L.K d_lots_with.at_) fd 10 ["many", "rows"] 2 f_lots_with := by
  obtain ⟨fd, F⟩ := L.def_ 20 (d := d_lots_with) rfl
  obtain ⟨fd_Lots_init, K_Lots_init⟩ := k_Lots_init L
  obtain ⟨fd_in_order, K_in_order⟩ := k_in_order L
  obtain ⟨fd_names_of, K_names_of⟩ := k_names_of L
  refine ⟨fd, F, FunD.bindsN F fun _ _ _ _ _ _ us hl => match us, hl with | [_, _], _ => rfl, fun b B kc => ?_⟩
  refine FnOk.frm (G := L.G TQ cl b kc) (b := b) ?_
  refine fn_okD (G := L.G TQ cl b kc) (k := kc + 9) (N := N_lots_with) (r := retD) (b := b_lots_with) F sc_lots_with rfl (by decide) retD_ok fun cdv hcd A outer s H E C => ?_
  exact (ss_one (sp_ret (se_make C rfl (He.mkr_ok (L.fact 43)) (K_Lots_init.ok b B kc) (by omega) (by rfl) (List.mem_of_getElem? (i := 0) rfl) (L.glo 44) K_Lots_init.bd (dlen_cons (dlen_cons dlen_nil)) (sl_cons (se_callTy (call_tupA C.calm) tupleO_op (by rfl) (L.free 10) bt_tuple (sl_cons (se_slice C.fit (se_gstr (by rfl) (L.str 40)) so_none (so_some (se_var (pv 0)))) sl_nil)) (sl_cons (se_call C ⟨rfl⟩ (K_in_order.ok b B kc) (by omega) (by rfl) (L.glo 42) K_in_order.F.kp K_in_order.bd (len_cons len_nil) (sa_cons (sx_val ⟨rfl⟩ (se_comp (own := [("row", 2)]) C sc_lots_with.nd (.inl rfl) (si_any C.fit (se_var (pv 1))) (blkOk_by (by kernel_rfl)) (fun _ _ _ _ _ C => (sw_name (pg_name sc_lots_with.nd rfl (by first | exact Or.inl rfl | exact Or.inr rfl)) (by decide))) (fun _ _ _ _ _ C => st_yes) (fun _ _ _ _ _ C => (se_call C ⟨rfl⟩ (K_names_of.ok b B kc) (by omega) (by rfl) (L.glo 41) K_names_of.F.kp K_names_of.bd (len_cons len_nil) (sa_cons (sx_val ⟨rfl⟩ (se_var (pv 2))) sa_nil))))) sa_nil)) sl_nil)))))
/-! progressions_by -/
abbrev N_progressions_by : List Str := ["many", "length", "rows", "begin", "gap", "at"]
theorem sc_progressions_by : FnScope N_progressions_by ["many", "length"] (defScope (top 32)) := ⟨rfl, rfl, rfl, by decide +kernel, rfl, by decide +kernel, by decide +kernel⟩
def b_progressions_by : Cs := (sSeq (sAsg 2 (cLstM cNil)) (sSeq (sFor (iRg2 (cCons (cD (.int 1)) (cCons (cOp2 (liftD addD) (cV 0) (cD (.int 1))) cNil))) (gN 3) (sFor (iRg2 (cCons (cD (.int 1)) (cCons (cV 0) cNil))) (gN 4) (sIf (cBl (cCmp .LtE (cOp2 (liftD addD) (cV 3) (cOp2 (liftD mulD) (cOp2 (liftD subD) (cV 1) (cD (.int 1))) (cV 4))) (cV 0))) (sEx (cMe isLc (onL appG) (cV 2) (cCons (cComp (iRg1 (cCons (cV 1) cNil)) [5] (step1 (gN 5) cYes (cOp2 (liftD addD) (cV 3) (cOp2 (liftD mulD) (cV 5) (cV 4)))) finL) cNil))) sNx))) (sRet (cCall f_lots_with (aCons (cVl (cV 0)) (aCons (cVl (cV 2)) aNil))))))
def f_progressions_by : List DC → Mo D := frm (fnOf 6 b_progressions_by)
theorem k_progressions_by (L : LW) : ∃ fd, DefOk L TQ cl d_progressions_by (He.fAd L.K d_progressions_by.at_) fd 11 ["many", "length"] 2 f_progressions_by := by
  obtain ⟨fd, F⟩ := L.def_ 21 (d := d_progressions_by) rfl
  obtain ⟨fd_lots_with, K_lots_with⟩ := k_lots_with L
  refine ⟨fd, F, FunD.bindsN F fun _ _ _ _ _ _ us hl => match us, hl with | [_, _], _ => rfl, fun b B kc => ?_⟩
  refine FnOk.frm (G := L.G TQ cl b kc) (b := b) ?_
  refine fn_okD (G := L.G TQ cl b kc) (k := kc + 10) (N := N_progressions_by) (r := retD) (b := b_progressions_by) F sc_progressions_by rfl (by decide) retD_ok fun cdv hcd A outer s H E C => ?_
  exact (ss_cons (sp_asg sc_progressions_by.nd rfl (by first | exact Or.inl rfl | exact Or.inr rfl) (se_lstM sl_nil))
    (ss_cons (sp_for C (si_range2 (by rfl) (L.free 3) (sl_cons se_int (sl_cons (se_add C.fit (se_var (pv 0)) se_int) sl_nil))) (sg_name sc_progressions_by.nd rfl (by first | exact Or.inl rfl | exact Or.inr rfl)) (ss_one (sp_for C (si_range2 (by rfl) (L.free 3) (sl_cons se_int (sl_cons (se_var (pv 0)) sl_nil))) (sg_name sc_progressions_by.nd rfl (by first | exact Or.inl rfl | exact Or.inr rfl)) (ss_one (sp_if (st_cmp C.fit C.hu (se_add C.fit (se_var (pv 3)) (se_mul C.fit (se_sub (se_var (pv 1)) se_int) (se_var (pv 4)))) (se_var (pv 0)) (by rfl)) (ss_one (sp_ex (se_me ms_append app_op (se_var (pv 2)) (sl_cons (se_comp (own := [("at", 5)]) C sc_progressions_by.nd (.inl rfl) (si_range1 (by rfl) (L.free 3) (sl_cons (se_var (pv 1)) sl_nil)) (blkOk_by (by kernel_rfl)) (fun _ _ _ _ _ C => (sw_name (pg_name sc_progressions_by.nd rfl (by first | exact Or.inl rfl | exact Or.inr rfl)) (by decide))) (fun _ _ _ _ _ C => st_yes) (fun _ _ _ _ _ C => (se_add C.fit (se_var (pv 3)) (se_mul C.fit (se_var (pv 5)) (se_var (pv 4)))))) sl_nil)))) ss_nil)))))
    (ss_one (sp_ret (se_call C ⟨rfl⟩ (K_lots_with.ok b B kc) (by omega) (by rfl) (L.glo 45) K_lots_with.F.kp K_lots_with.bd (len_cons (len_cons len_nil)) (sa_cons (sx_val ⟨rfl⟩ (se_var (pv 0))) (sa_cons (sx_val ⟨rfl⟩ (se_var (pv 2))) sa_nil)))))))
/-! progressions -/
abbrev N_progressions : List Str := ["many", "long"]
theorem sc_progressions : FnScope N_progressions ["many", "long"] (defScope (top 36)) := ⟨rfl, rfl, rfl, by decide +kernel, rfl, by decide +kernel, by decide +kernel⟩
def b_progressions : Cs := (sSeq (sEx (cCall f_check_number (aCons (cVl (cV 0)) (aCons (cVl (cD (.int 1))) (aCons (cVl (cD (.int 9))) aNil))))) (sSeq (sEx (cCall f_check_number (aCons (cVl (cV 1)) (aCons (cVl (cD (.int 2))) (aCons (cVl (cD (.int 9))) aNil))))) (sRet (cCall f_progressions_by (aCons (cVl (cV 0)) (aCons (cVl (cV 1)) aNil))))))
def f_progressions : List DC → Mo D := frm (fnOf 2 b_progressions)
theorem k_progressions (L : LW) : ∃ fd, DefOk L TQ cl d_progressions (He.fAd L.K d_progressions.at_) fd 12 ["many", "long"] 2 f_progressions := by
  obtain ⟨fd, F⟩ := L.def_ 22 (d := d_progressions) rfl
  obtain ⟨fd_check_number, K_check_number⟩ := k_check_number L
  obtain ⟨fd_progressions_by, K_progressions_by⟩ := k_progressions_by L
  refine ⟨fd, F, FunD.bindsN F fun _ _ _ _ _ _ us hl => match us, hl with | [_, _], _ => rfl, fun b B kc => ?_⟩
  refine FnOk.frm (G := L.G TQ cl b kc) (b := b) ?_
  refine fn_okD (G := L.G TQ cl b kc) (k := kc + 11) (N := N_progressions) (r := retD) (b := b_progressions) F sc_progressions rfl (by decide) retD_ok fun cdv hcd A outer s H E C => ?_
  exact (ss_cons (sp_ex (se_call C ⟨rfl⟩ (K_check_number.ok b B kc) (by omega) (by rfl) (L.glo 21) K_check_number.F.kp K_check_number.bd (len_cons (len_cons (len_cons len_nil))) (sa_cons (sx_val ⟨rfl⟩ (se_var (pv 0))) (sa_cons (sx_val ⟨rfl⟩ se_int) (sa_cons (sx_val ⟨rfl⟩ (se_gint (by rfl) (L.int 20))) sa_nil)))))
    (ss_cons (sp_ex (se_call C ⟨rfl⟩ (K_check_number.ok b B kc) (by omega) (by rfl) (L.glo 21) K_check_number.F.kp K_check_number.bd (len_cons (len_cons (len_cons len_nil))) (sa_cons (sx_val ⟨rfl⟩ (se_var (pv 1))) (sa_cons (sx_val ⟨rfl⟩ (se_gint (by rfl) (L.int 22))) (sa_cons (sx_val ⟨rfl⟩ (se_gint (by rfl) (L.int 20))) sa_nil)))))
    (ss_one (sp_ret (se_call C ⟨rfl⟩ (K_progressions_by.ok b B kc) (by omega) (by rfl) (L.glo 46) K_progressions_by.F.kp K_progressions_by.bd (len_cons (len_cons len_nil)) (sa_cons (sx_val ⟨rfl⟩ (se_var (pv 0))) (sa_cons (sx_val ⟨rfl⟩ (se_var (pv 1))) sa_nil)))))))
/-! _law_same -/
abbrev N_law_same : List Str := ["one", "two", "alike", "k"]
theorem sc_law_same : FnScope N_law_same ["one", "two"] (defScope (top 41)) := ⟨rfl, rfl, rfl, by decide +kernel, rfl, by decide +kernel, by decide +kernel⟩
def b_law_same (self : List DC → Mo D) : Cs := (sSeq (sIf (cTru (cOp1 (isTO "tuple") (cV 1))) (sSeq (sIf (cOrT (cNotT (cTru (cOp1 (isTO "tuple") (cV 0)))) (cBl (cCmp .NotEq (cB lenO (cCons (cV 0) cNil)) (cB lenO (cCons (cV 1) cNil))))) (sRet (cD (.bool false))) sNx) (sRet (cB allO (cCons (cComp (iRg1 (cCons (cB lenO (cCons (cV 1) cNil)) cNil)) [3] (step1 (gN 3) cYes (cCall self (aCons (cVl (cSub (cV 0) (cV 3))) (aCons (cVl (cSub (cV 1) (cV 3))) aNil)))) finL) cNil)))) sNx) (sSeq (sIf (cTru (cOp1 (isTO "bool") (cV 1))) (sRet (cAnd (cOp1 (isTO "bool") (cV 0)) (cCmp .Eq (cV 0) (cV 1)))) sNx) (sSeq (sIf (cTru (cOp1 (isTO "int") (cV 1))) (sRet (cAnd (cOp1 (isTO "int") (cV 0)) (cAnd (cNot (cOp1 (isTO "bool") (cV 0))) (cCmp .Eq (cV 0) (cV 1))))) sNx) (sSeq (sIf (cTru (cOp1 (isTO "str") (cV 1))) (sRet (cAnd (cOp1 (isTO "str") (cV 0)) (cCmp .Eq (cV 0) (cV 1)))) sNx) (sSeq (sIf (cBl (cCmp .Is (cV 1) (cD .none))) (sRet (cCmp .Is (cV 0) (cD .none))) sNx) (sSeq (sAsg 2 (cAnd (cCmp .Eq (cOp1 (isTO "list") (cV 0)) (cOp1 (isTO "list") (cV 1))) (cCmp .Eq (cOp1 (isTO "dict") (cV 0)) (cOp1 (isTO "dict") (cV 1))))) (sRet (cAnd (cV 2) (cAnd (cNot (cOp1 (isTO "tuple") (cV 0))) (cCmp .Is (cCmp .Eq (cV 0) (cV 1)) (cD (.bool true))))))))))))
def f_law_same : Nat → List DC → Mo D
  | 0 => frm (fnOf 4 sNo)
  | fuel + 1 => frm (fnOf 4 (b_law_same (f_law_same fuel)))
theorem k_law_same (L : LW) : ∀ fuel : Nat, ∃ fd, DefOk L TQ cl d_law_same (He.fAd L.K d_law_same.at_) fd (1 + fuel) ["one", "two"] 2 (f_law_same fuel) := by
  obtain ⟨fd, F⟩ := L.def_ 23 (d := d_law_same) rfl
  have bd : Binds L.K fd ["one", "two"] [] := FunD.bindsN F fun _ _ _ _ _ _ us hl => match us, hl with | [_, _], _ => rfl
  have main : ∀ fuel : Nat, DefOk L TQ cl d_law_same (He.fAd L.K d_law_same.at_) fd (1 + fuel) ["one", "two"] 2 (f_law_same fuel) := by
    intro fuel
    induction fuel with
    | zero => exact ⟨F, bd, fun b B kc => FnOk.frm (G := L.G TQ cl b kc) (b := b) <| fn_okD (G := L.G TQ cl b kc) (k := kc + 0) (N := N_law_same) (r := retD) (b := sNo) F sc_law_same rfl (by decide) retD_ok fun cdv hcd A outer s H E C => ss_no⟩
    | succ fuel K_self =>
      refine ⟨F, bd, fun b B kc => ?_⟩
      refine FnOk.frm (G := L.G TQ cl b kc) (b := b) ?_
      refine fn_okD (G := L.G TQ cl b kc) (k := kc + (1 + fuel)) (N := N_law_same) (r := retD) (b := b_law_same (f_law_same fuel)) F sc_law_same rfl (by decide) retD_ok fun cdv hcd A outer s H E C => ?_
      exact (ss_cons (sp_if (st_tru C.fit (se_isT C.fit (insF L b kc) (by rfl) (L.free 16) (se_var (pv 1)) (by rfl) (L.free 10) bt_tuple) (by intro _; rfl)) (ss_cons (sp_if (st_w (sw_or (st_not (st_tru C.fit (se_isT C.fit (insF L b kc) (by rfl) (L.free 16) (se_var (pv 0)) (by rfl) (L.free 10) bt_tuple) (by intro _; rfl))) (sw_or1 (st_cmp C.fit C.hu (se_callB call_lenA lenO_op (by rfl) (L.free 0) bt_len (sl_cons (se_var (pv 0)) sl_nil)) (se_callB call_lenA lenO_op (by rfl) (L.free 0) bt_len (sl_cons (se_var (pv 1)) sl_nil)) (by rfl))))) (ss_one (sp_ret se_bool)) ss_nil)
    (ss_one (sp_ret (se_callB (cr_all C.calm) allO_op (by rfl) (L.free 26) bt_all (sl_cons (se_comp (own := [("k", 3)]) C sc_law_same.nd (.inl rfl) (si_range1 (by rfl) (L.free 3) (sl_cons (se_callB call_lenA lenO_op (by rfl) (L.free 0) bt_len (sl_cons (se_var (pv 1)) sl_nil)) sl_nil)) (blkOk_by (by kernel_rfl)) (fun _ _ _ _ _ C => (sw_name (pg_name sc_law_same.nd rfl (by first | exact Or.inl rfl | exact Or.inr rfl)) (by decide))) (fun _ _ _ _ _ C => st_yes) (fun _ _ _ _ _ C => (se_call C ⟨rfl⟩ (K_self.ok b B kc) (Nat.le_refl _) (by rfl) (L.glo 48) K_self.F.kp K_self.bd (len_cons (len_cons len_nil)) (sa_cons (sx_val ⟨rfl⟩ (se_sub2 C (se_var (pv 0)) (se_var (pv 3)))) (sa_cons (sx_val ⟨rfl⟩ (se_sub2 C (se_var (pv 1)) (se_var (pv 3)))) sa_nil))))) sl_nil))))) ss_nil)
    (ss_cons (sp_if (st_tru C.fit (se_isT C.fit (insF L b kc) (by rfl) (L.free 16) (se_var (pv 1)) (by rfl) (L.free 17) bt_bool) (by intro _; rfl)) (ss_one (sp_ret (se_and (se_isT C.fit (insF L b kc) (by rfl) (L.free 16) (se_var (pv 0)) (by rfl) (L.free 17) bt_bool) (se_one (se_cmpA C.fit C.hu (se_var (pv 0)) (se_var (pv 1)) (by rfl)))))) ss_nil)
    (ss_cons (sp_if (st_tru C.fit (se_isT C.fit (insF L b kc) (by rfl) (L.free 16) (se_var (pv 1)) (by rfl) (L.free 4) bt_int) (by intro _; rfl)) (ss_one (sp_ret (se_and (se_isT C.fit (insF L b kc) (by rfl) (L.free 16) (se_var (pv 0)) (by rfl) (L.free 4) bt_int) (se_and (se_not (se_isT C.fit (insF L b kc) (by rfl) (L.free 16) (se_var (pv 0)) (by rfl) (L.free 17) bt_bool)) (se_one (se_cmpA C.fit C.hu (se_var (pv 0)) (se_var (pv 1)) (by rfl))))))) ss_nil)
    (ss_cons (sp_if (st_tru C.fit (se_isT C.fit (insF L b kc) (by rfl) (L.free 16) (se_var (pv 1)) (by rfl) (L.free 24) bt_str) (by intro _; rfl)) (ss_one (sp_ret (se_and (se_isT C.fit (insF L b kc) (by rfl) (L.free 16) (se_var (pv 0)) (by rfl) (L.free 24) bt_str) (se_one (se_cmpA C.fit C.hu (se_var (pv 0)) (se_var (pv 1)) (by rfl)))))) ss_nil)
    (ss_cons (sp_if (st_cmp C.fit C.hu (se_var (pv 1)) se_none (by rfl)) (ss_one (sp_ret (se_cmpA C.fit C.hu (se_var (pv 0)) se_none (by rfl)))) ss_nil)
    (ss_cons (sp_asg sc_law_same.nd rfl (by first | exact Or.inl rfl | exact Or.inr rfl) (se_and (se_cmpA C.fit C.hu (se_isT C.fit (insF L b kc) (by rfl) (L.free 16) (se_var (pv 0)) (by rfl) (L.free 12) bt_list) (se_isT C.fit (insF L b kc) (by rfl) (L.free 16) (se_var (pv 1)) (by rfl) (L.free 12) bt_list) (by rfl)) (se_one (se_cmpA C.fit C.hu (se_isT C.fit (insF L b kc) (by rfl) (L.free 16) (se_var (pv 0)) (by rfl) (L.free 11) bt_dict) (se_isT C.fit (insF L b kc) (by rfl) (L.free 16) (se_var (pv 1)) (by rfl) (L.free 11) bt_dict) (by rfl)))))
    (ss_one (sp_ret (se_and (se_var (pv 2)) (se_and (se_not (se_isT C.fit (insF L b kc) (by rfl) (L.free 16) (se_var (pv 0)) (by rfl) (L.free 10) bt_tuple)) (se_one (se_cmpA C.fit C.hu (se_cmpA C.fit C.hu (se_var (pv 0)) (se_var (pv 1)) (by rfl)) se_bool (by rfl)))))))))))))
  exact fun fuel => ⟨fd, main fuel⟩
/-! Lots.parts -/
abbrev N_Lots_parts : List Str := ["self"]
theorem sc_Lots_parts : FnScope N_Lots_parts ["self"] (defScope (inCls (top 26) 3)) := ⟨rfl, rfl, rfl, by decide +kernel, rfl, by decide +kernel, by decide +kernel⟩
def b_Lots_parts : Cs := (sRet (cFld cl "all_told" (cV 0)))
def f_Lots_parts : List DC → Mo D := frm (fnOf 1 b_Lots_parts)
theorem k_Lots_parts (L : LW) : ∃ fd, DefOk L TQ cl d_Lots_parts (gtr L.K "Lots" "parts") fd 1 ["self"] 1 f_Lots_parts := by
  obtain ⟨pr, fd, F⟩ := L.g.get 0 (g := ⟨"Lots", "parts", d_Lots_parts⟩) rfl
  refine ⟨fd, F, FunD.bindsN F fun _ _ _ _ _ _ us hl => match us, hl with | [_], _ => rfl, fun b B kc => ?_⟩
  refine FnOk.frm (G := L.G TQ cl b kc) (b := b) ?_
  refine fn_okD (G := L.G TQ cl b kc) (k := kc + 0) (N := N_Lots_parts) (r := retD) (b := b_Lots_parts) F sc_Lots_parts rfl (by decide) retD_ok fun cdv hcd A outer s H E C => ?_
  exact (ss_one (sp_ret (se_fld C (na_all_told L b kc) (se_var (pv 0)))))
abbrev tb_parts : List (Str × (List DC → Mo D)) := [("Lots", f_Lots_parts)]
theorem hp_parts (L : LW) (b : Heap) (B : L.Bs b) (kc : Nat) : ∀ c g, (c, g) ∈ tb_parts → (∀ Ca, (L.G TQ cl b kc).mg c = some (.ref Ca) → L2.Cls L.K Ca) ∧ PropF (L.G TQ cl b kc) (kc + 1) "parts" c g := by
  intro c g h
  have h : c = "Lots" ∧ g = f_Lots_parts := by simpa using h
  obtain ⟨rfl, rfl⟩ := h
  obtain ⟨pr, _⟩ := L.g.get 0 (g := ⟨"Lots", "parts", d_Lots_parts⟩) rfl
  obtain ⟨fd, K⟩ := k_Lots_parts L
  refine ⟨fun Ca e => ?_, fun Ca e => ?_⟩
  · have e2 := (L.glo 44).symm.trans e
    cases e2
    exact He.cls_ok (L.fact 53)
  · have e2 := (L.glo 44).symm.trans e
    cases e2
    exact ⟨_, _, fd, _, pr, K.ok b B kc, K.bd⟩
/-! Lots.rows -/
abbrev N_Lots_rows : List Str := ["self"]
theorem sc_Lots_rows : FnScope N_Lots_rows ["self"] (defScope (inCls (top 26) 2)) := ⟨rfl, rfl, rfl, by decide +kernel, rfl, by decide +kernel, by decide +kernel⟩
def b_Lots_rows : Cs := (sRet (cSub (cFld cl "all_told" (cV 0)) (cD (.int 1))))
def f_Lots_rows : List DC → Mo D := frm (fnOf 1 b_Lots_rows)
theorem k_Lots_rows (L : LW) : ∃ fd, DefOk L TQ cl d_Lots_rows (gtr L.K "Lots" "rows") fd 1 ["self"] 1 f_Lots_rows := by
  obtain ⟨pr, fd, F⟩ := L.g.get 1 (g := ⟨"Lots", "rows", d_Lots_rows⟩) rfl
  refine ⟨fd, F, FunD.bindsN F fun _ _ _ _ _ _ us hl => match us, hl with | [_], _ => rfl, fun b B kc => ?_⟩
  refine FnOk.frm (G := L.G TQ cl b kc) (b := b) ?_
  refine fn_okD (G := L.G TQ cl b kc) (k := kc + 0) (N := N_Lots_rows) (r := retD) (b := b_Lots_rows) F sc_Lots_rows rfl (by decide) retD_ok fun cdv hcd A outer s H E C => ?_
  exact (ss_one (sp_ret (se_sub2 C (se_fld C (na_all_told L b kc) (se_var (pv 0))) se_int)))
abbrev tb_rows : List (Str × (List DC → Mo D)) := [("Lots", f_Lots_rows)]
theorem hp_rows (L : LW) (b : Heap) (B : L.Bs b) (kc : Nat) : ∀ c g, (c, g) ∈ tb_rows → (∀ Ca, (L.G TQ cl b kc).mg c = some (.ref Ca) → L2.Cls L.K Ca) ∧ PropF (L.G TQ cl b kc) (kc + 1) "rows" c g := by
  intro c g h
  have h : c = "Lots" ∧ g = f_Lots_rows := by simpa using h
  obtain ⟨rfl, rfl⟩ := h
  obtain ⟨pr, _⟩ := L.g.get 1 (g := ⟨"Lots", "rows", d_Lots_rows⟩) rfl
  obtain ⟨fd, K⟩ := k_Lots_rows L
  refine ⟨fun Ca e => ?_, fun Ca e => ?_⟩
  · have e2 := (L.glo 44).symm.trans e
    cases e2
    exact He.cls_ok (L.fact 53)
  · have e2 := (L.glo 44).symm.trans e
    cases e2
    exact ⟨_, _, fd, _, pr, K.ok b B kc, K.bd⟩
/-! Lots.things -/
abbrev N_Lots_things : List Str := ["self"]
theorem sc_Lots_things : FnScope N_Lots_things ["self"] (defScope (inCls (top 26) 1)) := ⟨rfl, rfl, rfl, by decide +kernel, rfl, by decide +kernel, by decide +kernel⟩
def b_Lots_things : Cs := (sRet (cSub (cFld cl "all_told" (cV 0)) (cD (.int 0))))
def f_Lots_things : List DC → Mo D := frm (fnOf 1 b_Lots_things)
theorem k_Lots_things (L : LW) : ∃ fd, DefOk L TQ cl d_Lots_things (gtr L.K "Lots" "things") fd 1 ["self"] 1 f_Lots_things := by
  obtain ⟨pr, fd, F⟩ := L.g.get 2 (g := ⟨"Lots", "things", d_Lots_things⟩) rfl
  refine ⟨fd, F, FunD.bindsN F fun _ _ _ _ _ _ us hl => match us, hl with | [_], _ => rfl, fun b B kc => ?_⟩
  refine FnOk.frm (G := L.G TQ cl b kc) (b := b) ?_
  refine fn_okD (G := L.G TQ cl b kc) (k := kc + 0) (N := N_Lots_things) (r := retD) (b := b_Lots_things) F sc_Lots_things rfl (by decide) retD_ok fun cdv hcd A outer s H E C => ?_
  exact (ss_one (sp_ret (se_sub2 C (se_fld C (na_all_told L b kc) (se_var (pv 0))) se_int)))
abbrev tb_things : List (Str × (List DC → Mo D)) := [("Lots", f_Lots_things)]
theorem hp_things (L : LW) (b : Heap) (B : L.Bs b) (kc : Nat) : ∀ c g, (c, g) ∈ tb_things → (∀ Ca, (L.G TQ cl b kc).mg c = some (.ref Ca) → L2.Cls L.K Ca) ∧ PropF (L.G TQ cl b kc) (kc + 1) "things" c g := by
  intro c g h
  have h : c = "Lots" ∧ g = f_Lots_things := by simpa using h
  obtain ⟨rfl, rfl⟩ := h
  obtain ⟨pr, _⟩ := L.g.get 2 (g := ⟨"Lots", "things", d_Lots_things⟩) rfl
  obtain ⟨fd, K⟩ := k_Lots_things L
  refine ⟨fun Ca e => ?_, fun Ca e => ?_⟩
  · have e2 := (L.glo 44).symm.trans e
    cases e2
    exact He.cls_ok (L.fact 53)
  · have e2 := (L.glo 44).symm.trans e
    cases e2
    exact ⟨_, _, fd, _, pr, K.ok b B kc, K.bd⟩
/-! Lots.__eq__ -/
abbrev N_Lots_eq : List Str := ["self", "other"]
theorem sc_Lots_eq : FnScope N_Lots_eq ["self", "other"] (defScope (inCls (top 26) 4)) := ⟨rfl, rfl, rfl, by decide +kernel, rfl, by decide +kernel, by decide +kernel⟩
def b_Lots_eq : Cs := (sRet (cAnd (cOp1 (isCO "Lots") (cV 1)) (cCmp .Eq (cProp tb_parts (cV 0)) (cProp tb_parts (cV 1)))))
def f_Lots_eq : List DC → Mo D := frm (fnOf 2 b_Lots_eq)
theorem k_Lots_eq (L : LW) : ∃ fd, DefOk L TQ cl d_Lots_eq (He.fAd L.K d_Lots_eq.at_) fd 3 ["self", "other"] 2 f_Lots_eq := by
  obtain ⟨fd, F⟩ := L.def_ 24 (d := d_Lots_eq) rfl
  refine ⟨fd, F, FunD.bindsN F fun _ _ _ _ _ _ us hl => match us, hl with | [_, _], _ => rfl, fun b B kc => ?_⟩
  refine FnOk.frm (G := L.G TQ cl b kc) (b := b) ?_
  refine fn_okD (G := L.G TQ cl b kc) (k := kc + 2) (N := N_Lots_eq) (r := retD) (b := b_Lots_eq) F sc_Lots_eq rfl (by decide) retD_ok fun cdv hcd A outer s H E C => ?_
  exact (ss_one (sp_ret (se_and (se_isC C.fit (insF L b kc) (iscF_ok L TQ b kc (L.ex 2)) (by rfl) (L.free 16) (se_var (pv 1)) (by rfl) (L.glo 44)) (se_one (se_cmpA C.fit C.hu (se_prop C rfl (by omega) (hp_parts L b B kc) (se_var (pv 0))) (se_prop C rfl (by omega) (hp_parts L b B kc) (se_var (pv 1))) (by rfl))))))
abbrev tb_eq : List (Str × (List DC → Mo D)) := [("Lots", f_Lots_eq)]
theorem he_eq (L : LW) (b : Heap) (B : L.Bs b) (kc : Nat) : ∀ c g, (c, g) ∈ tb_eq → EqF (L.G TQ cl b kc) (kc + 3) c g := by
  intro c g h
  have h : c = "Lots" ∧ g = f_Lots_eq := by simpa using h
  obtain ⟨rfl, rfl⟩ := h
  obtain ⟨fd, K⟩ := k_Lots_eq L
  obtain ⟨e1, e2⟩ := eqc_ok (L := L) (L.ex 5)
  intro Ca e
  have e3 := e1.symm.trans e
  cases e3
  exact ⟨_, fd, _, e2, K.ok b B kc, K.bd⟩
/-! _law_within -/
abbrev N_law_within : List Str := ["one", "two", "thing"]
theorem sc_law_within : FnScope N_law_within ["one", "two"] (defScope (top 43)) := ⟨rfl, rfl, rfl, by decide +kernel, rfl, by decide +kernel, by decide +kernel⟩
def b_law_within : Cs := (sRet (cCmp .Eq (cComp (iAny (cV 0)) [2] (step1 (gN 2) (cBl (cIn true (cV 2) (cV 1))) (cV 2)) finL) (cLst cNil)))
def f_law_within : List DC → Mo D := frm (fnOf 3 b_law_within)
theorem k_law_within (L : LW) : ∃ fd, DefOk L TQ cl d_law_within (He.fAd L.K d_law_within.at_) fd 1 ["one", "two"] 2 f_law_within := by
  obtain ⟨fd, F⟩ := L.def_ 25 (d := d_law_within) rfl
  refine ⟨fd, F, FunD.bindsN F fun _ _ _ _ _ _ us hl => match us, hl with | [_, _], _ => rfl, fun b B kc => ?_⟩
  refine FnOk.frm (G := L.G TQ cl b kc) (b := b) ?_
  refine fn_okD (G := L.G TQ cl b kc) (k := kc + 0) (N := N_law_within) (r := retD) (b := b_law_within) F sc_law_within rfl (by decide) retD_ok fun cdv hcd A outer s H E C => ?_
  exact (ss_one (sp_ret (se_cmpA C.fit C.hu (se_comp (own := [("thing", 2)]) C sc_law_within.nd (.inl rfl) (si_any C.fit (se_var (pv 0))) (blkOk_by (by kernel_rfl)) (fun _ _ _ _ _ C => (sw_name (pg_name sc_law_within.nd rfl (by first | exact Or.inl rfl | exact Or.inr rfl)) (by decide))) (fun _ _ _ _ _ C => (st_onec (st_nin C (se_var (pv 2)) (se_var (pv 1))))) (fun _ _ _ _ _ C => (se_var (pv 2)))) (se_lst sl_nil) (by rfl))))
/-! _law_right -/
abbrev N_law_right : List Str := ["well", "many", "long", "due", "told", "mirror", "turned", "longer", "row", "thing", "one"]
theorem sc_law_right : FnScope N_law_right ["well"] (defScope (top 45)) := ⟨rfl, rfl, rfl, by decide +kernel, rfl, by decide +kernel, by decide +kernel⟩
def r1_law_right : Cs := (sSeq (sAsg 3 (cCall f_law_progressions (aCons (cVl (cV 1)) (aCons (cVl (cV 2)) aNil)))) (sSeq (sFor (iAny (cTup (cCons (cCall f_progressions (aCons (cVl (cV 1)) (aCons (cVl (cV 2)) aNil))) (cCons (cCallK f_progressions 2 [1, 0] cNil (cCons (cV 2) (cCons (cV 1) cNil))) cNil)))) (gN 4) (sIf (cOrT (cNotT (cTru (cOp1 (isCO "Lots") (cV 4)))) (cNotT (cTru (cCall (f_law_same 6) (aCons (cVl (cTup (cCons (cProp tb_things (cV 4)) (cCons (cProp tb_rows (cV 4)) (cCons (cProp tb_parts (cV 4)) cNil))))) (aCons (cVl (cTup (cCons (cSub (cV 3) (cD (.int 0))) (cCons (cSub (cV 3) (cD (.int 1))) (cCons (cV 3) cNil))))) aNil)))))) (sRet (cD (.bool false))) sNx)) (sSeq (sAsg 5 (cB dzipO (cCons (cSub (cV 3) (cD (.int 0))) (cCons (cRev (cSub (cV 3) (cD (.int 0)))) cNil)))) (sSeq (sAsg 6 (cCall f_law_in_order (aCons (cVl (cComp (iAny (cProp tb_rows (cV 4))) [8] (step1 (gN 8) cYes (cB tupleO (cCons (cB sortedO (cCons (cComp (iAny (cV 8)) [9] (step1 (gN 9) cYes (cSub (cV 5) (cV 9))) finL) cNil)) cNil))) finL)) aNil))) (sSeq (sIf (cOrT (cBl (cEqT tb_eq true (cV 6) (cSub (cV 3) (cD (.int 1))))) (cBl (cEqT tb_eq true (cV 4) (cMake "Lots" true f_Lots_init (cCons (cSub (cV 3) (cD (.int 0))) (cCons (cSub (cV 3) (cD (.int 1))) cNil)))))) (sRet (cD (.bool false))) sNx) (sSeq (sAsg 7 (cCall f_progressions (aCons (cVl (cV 1)) (aCons (cVl (cB min2O (cCons (cD (.int 9)) (cCons (cOp2 (liftD addD) (cV 2) (cD (.int 1))) cNil)))) aNil)))) (sRet (cEqT tb_eq false (cComp (iAny (cProp tb_rows (cV 7))) [8] (step1 (gN 8) (cBl (cEqT tb_eq false (cComp (iAny (cProp tb_rows (cV 4))) [10] (step1 (gN 10) (cTru (cCall f_law_within (aCons (cVl (cV 10)) (aCons (cVl (cV 8)) aNil)))) (cV 10)) finL) (cLst cNil))) (cV 8)) finL) (cLst cNil)))))))))
def b_law_right : Cs := (sSeq (sPar 1 2 (cCons (cOp2 (liftD addD) (cD (.int 1)) (cCall f_law_draw (aCons (cVl (cV 0)) (aCons (cVl (cD (.int 9))) aNil)))) (cCons (cOp2 (liftD addD) (cD (.int 2)) (cCall f_law_draw (aCons (cVl (cV 0)) (aCons (cVl (cCall f_law_of (aCons (cVl (cV 0)) (aCons (cVl (cTup (cCons (cD (.int 3)) (cCons (cD (.int 8)) cNil)))) aNil)))) aNil)))) cNil))) r1_law_right)
def f_law_right : List DC → Mo D := frm (fnOf 11 b_law_right)
theorem k_law_right (L : LW) : ∃ fd, DefOk L TQ cl d_law_right (He.fAd L.K d_law_right.at_) fd 13 ["well"] 1 f_law_right := by
  obtain ⟨fd, F⟩ := L.def_ 26 (d := d_law_right) rfl
  obtain ⟨fd_law_draw, K_law_draw⟩ := k_law_draw L
  obtain ⟨fd_law_of, K_law_of⟩ := k_law_of L
  obtain ⟨fd_law_progressions, K_law_progressions⟩ := k_law_progressions L
  obtain ⟨fd_progressions, K_progressions⟩ := k_progressions L
  obtain ⟨fd_law_same, K_law_same⟩ := k_law_same L 6
  obtain ⟨fd_law_in_order, K_law_in_order⟩ := k_law_in_order L
  obtain ⟨fd_Lots_init, K_Lots_init⟩ := k_Lots_init L
  obtain ⟨fd_law_within, K_law_within⟩ := k_law_within L
  refine ⟨fd, F, FunD.bindsN F fun _ _ _ _ _ _ us hl => match us, hl with | [_], _ => rfl, fun b B kc => ?_⟩
  refine FnOk.frm (G := L.G TQ cl b kc) (b := b) ?_
  refine fn_okD (G := L.G TQ cl b kc) (k := kc + 12) (N := N_law_right) (r := retD) (b := b_law_right) F sc_law_right rfl (by decide) retD_ok fun cdv hcd A outer s H E C => ?_
  exact (ss_cons (sp_par C.calm sc_law_right.nd rfl rfl (by decide) rfl rfl (sl_cons (se_add C.fit se_int (se_call C ⟨rfl⟩ (K_law_draw.ok b B kc) (by omega) (by rfl) (L.glo 8) K_law_draw.F.kp K_law_draw.bd (len_cons (len_cons len_nil)) (sa_cons (sx_val ⟨rfl⟩ (se_var (pv 0))) (sa_cons (sx_val ⟨rfl⟩ se_int) sa_nil)))) (sl_cons (se_add C.fit se_int (se_call C ⟨rfl⟩ (K_law_draw.ok b B kc) (by omega) (by rfl) (L.glo 8) K_law_draw.F.kp K_law_draw.bd (len_cons (len_cons len_nil)) (sa_cons (sx_val ⟨rfl⟩ (se_var (pv 0))) (sa_cons (sx_val ⟨rfl⟩ (se_call C ⟨rfl⟩ (K_law_of.ok b B kc) (by omega) (by rfl) (L.glo 9) K_law_of.F.kp K_law_of.bd (len_cons (len_cons len_nil)) (sa_cons (sx_val ⟨rfl⟩ (se_var (pv 0))) (sa_cons (sx_val ⟨rfl⟩ (se_tup (sl_cons se_int (sl_cons se_int sl_nil)))) sa_nil)))) sa_nil)))) sl_nil)) rfl)
    (ss_cons (sp_asg sc_law_right.nd rfl (by first | exact Or.inl rfl | exact Or.inr rfl) (se_call C ⟨rfl⟩ (K_law_progressions.ok b B kc) (by omega) (by rfl) (L.glo 15) K_law_progressions.F.kp K_law_progressions.bd (len_cons (len_cons len_nil)) (sa_cons (sx_val ⟨rfl⟩ (se_var (pv 1))) (sa_cons (sx_val ⟨rfl⟩ (se_var (pv 2))) sa_nil))))
    (ss_cons (sp_for C (si_any C.fit (se_tup (sl_cons (se_call C ⟨rfl⟩ (K_progressions.ok b B kc) (by omega) (by rfl) (L.glo 47) K_progressions.F.kp K_progressions.bd (len_cons (len_cons len_nil)) (sa_cons (sx_val ⟨rfl⟩ (se_var (pv 1))) (sa_cons (sx_val ⟨rfl⟩ (se_var (pv 2))) sa_nil))) (sl_cons (se_callK0 C ⟨rfl⟩ (K_progressions.ok b B kc) (by omega) (by rfl) (L.glo 47) K_progressions.F.kp (FunD.kwB (n1 := 0) (n2 := 2) (ks := ["long", "many"]) (perm := [1, 0]) K_progressions.F (fun _ _ _ _ _ _ us ws h1 h2 => match us, ws, h1, h2 with | [], [_, _], _, _ => rfl)) (dlen_cons (dlen_cons dlen_nil)) (sk_cons (se_var (pv 2)) (sk_cons (se_var (pv 1)) sk_nil))) sl_nil)))) (sg_name sc_law_right.nd rfl (by first | exact Or.inl rfl | exact Or.inr rfl)) (ss_one (sp_if (st_w (sw_or (st_not (st_tru C.fit (se_isC C.fit (insF L b kc) (iscF_ok L TQ b kc (L.ex 2)) (by rfl) (L.free 16) (se_var (pv 4)) (by rfl) (L.glo 44)) (by intro _; rfl))) (sw_or1 (st_not (st_tru C.fit (se_call C ⟨rfl⟩ (K_law_same.ok b B kc) (by omega) (by rfl) (L.glo 48) K_law_same.F.kp K_law_same.bd (len_cons (len_cons len_nil)) (sa_cons (sx_val ⟨rfl⟩ (se_tup (sl_cons (se_prop C rfl (by omega) (hp_things L b B kc) (se_var (pv 4))) (sl_cons (se_prop C rfl (by omega) (hp_rows L b B kc) (se_var (pv 4))) (sl_cons (se_prop C rfl (by omega) (hp_parts L b B kc) (se_var (pv 4))) sl_nil))))) (sa_cons (sx_val ⟨rfl⟩ (se_tup (sl_cons (se_sub2 C (se_var (pv 3)) se_int) (sl_cons (se_sub2 C (se_var (pv 3)) se_int) (sl_cons (se_var (pv 3)) sl_nil))))) sa_nil))) (by intro _; rfl)))))) (ss_one (sp_ret se_bool)) ss_nil)))
    (ss_cons (sp_asg sc_law_right.nd rfl (by first | exact Or.inl rfl | exact Or.inr rfl) (se_dzip C (by rfl) (L.free 11) (by rfl) (L.free 49) (sl_cons (se_sub2 C (se_var (pv 3)) se_int) (sl_cons (se_rev C (se_sub2 C (se_var (pv 3)) se_int)) sl_nil))))
    (ss_cons (sp_asg sc_law_right.nd rfl (by first | exact Or.inl rfl | exact Or.inr rfl) (se_call C ⟨rfl⟩ (K_law_in_order.ok b B kc) (by omega) (by rfl) (L.glo 14) K_law_in_order.F.kp K_law_in_order.bd (len_cons len_nil) (sa_cons (sx_val ⟨rfl⟩ (se_comp (own := [("row", 8)]) C sc_law_right.nd (.inl rfl) (si_any C.fit (se_prop C rfl (by omega) (hp_rows L b B kc) (se_var (pv 4)))) (blkOk_by (by kernel_rfl)) (fun _ _ _ _ _ C => (sw_name (pg_name sc_law_right.nd rfl (by first | exact Or.inl rfl | exact Or.inr rfl)) (by decide))) (fun _ _ _ _ _ C => st_yes) (fun _ _ _ _ _ C => (se_callTy (call_tupA C.calm) tupleO_op (by rfl) (L.free 10) bt_tuple (sl_cons (se_callB (call_sortA C.calm C.hu) sortedO_op (by rfl) (L.free 13) bt_sorted (sl_cons (se_comp (own := [("thing", 9)]) C sc_law_right.nd (.inl rfl) (si_any C.fit (se_var (pv 8))) (blkOk_by (by kernel_rfl)) (fun _ _ _ _ _ C => (sw_name (pg_name sc_law_right.nd rfl (by first | exact Or.inl rfl | exact Or.inr rfl)) (by decide))) (fun _ _ _ _ _ C => st_yes) (fun _ _ _ _ _ C => (se_sub2 C (se_var (pv 5)) (se_var (pv 9))))) sl_nil)) sl_nil))))) sa_nil)))
    (ss_cons (sp_if (st_w (sw_or (st_neT C rfl (by omega) (he_eq L b B kc) (se_var (pv 6)) (se_sub2 C (se_var (pv 3)) se_int)) (sw_or1 (st_neT C rfl (by omega) (he_eq L b B kc) (se_var (pv 4)) (se_make C rfl (He.mkr_ok (L.fact 43)) (K_Lots_init.ok b B kc) (by omega) (by rfl) (List.mem_of_getElem? (i := 0) rfl) (L.glo 44) K_Lots_init.bd (dlen_cons (dlen_cons dlen_nil)) (sl_cons (se_sub2 C (se_var (pv 3)) se_int) (sl_cons (se_sub2 C (se_var (pv 3)) se_int) sl_nil))))))) (ss_one (sp_ret se_bool)) ss_nil)
    (ss_cons (sp_asg sc_law_right.nd rfl (by first | exact Or.inl rfl | exact Or.inr rfl) (se_call C ⟨rfl⟩ (K_progressions.ok b B kc) (by omega) (by rfl) (L.glo 47) K_progressions.F.kp K_progressions.bd (len_cons (len_cons len_nil)) (sa_cons (sx_val ⟨rfl⟩ (se_var (pv 1))) (sa_cons (sx_val ⟨rfl⟩ (se_callB (call_min2 C.calm) int2O_op (by rfl) (L.free 1) bt_min (sl_cons se_int (sl_cons (se_add C.fit (se_var (pv 2)) se_int) sl_nil)))) sa_nil))))
    (ss_one (sp_ret (se_eqT C rfl (by omega) (he_eq L b B kc) (se_comp (own := [("row", 8)]) C sc_law_right.nd (.inl rfl) (si_any C.fit (se_prop C rfl (by omega) (hp_rows L b B kc) (se_var (pv 7)))) (blkOk_by (by kernel_rfl)) (fun _ _ _ _ _ C => (sw_name (pg_name sc_law_right.nd rfl (by first | exact Or.inl rfl | exact Or.inr rfl)) (by decide))) (fun _ _ _ _ _ C => (st_onec (st_eqT C rfl (by omega) (he_eq L b B kc) (se_comp (own := [("one", 10)]) C sc_law_right.nd (.inl rfl) (si_any C.fit (se_prop C rfl (by omega) (hp_rows L b B kc) (se_var (pv 4)))) (blkOk_by (by kernel_rfl)) (fun _ _ _ _ _ C => (sw_name (pg_name sc_law_right.nd rfl (by first | exact Or.inl rfl | exact Or.inr rfl)) (by decide))) (fun _ _ _ _ _ C => (st_onec (st_tru C.fit (se_call C ⟨rfl⟩ (K_law_within.ok b B kc) (by omega) (by rfl) (L.glo 50) K_law_within.F.kp K_law_within.bd (len_cons (len_cons len_nil)) (sa_cons (sx_val ⟨rfl⟩ (se_var (pv 10))) (sa_cons (sx_val ⟨rfl⟩ (se_var (pv 8))) sa_nil))) (by intro _; rfl)))) (fun _ _ _ _ _ C => (se_var (pv 10)))) (se_lst sl_nil)))) (fun _ _ _ _ _ C => (se_var (pv 8)))) (se_lst sl_nil)))))))))))
/-! law -/
abbrev N_law : List Str := ["script", "wells", "lap"]
theorem sc_law : FnScope N_law ["script"] (defScope (top 46)) := ⟨rfl, rfl, rfl, by decide +kernel, rfl, by decide +kernel, by decide +kernel⟩
def b_law : Cs := (sSeq (sAsg 1 (cComp (iRg1 (cCons (cB max2O (cCons (cD (.int 1)) (cCons (cB min2O (cCons (cB lenO (cCons (cV 0) cNil)) (cCons (cD (.int 3)) cNil))) cNil))) cNil)) [2] (step1 (gN 2) cYes (cCall f_law_well (aCons (cVl (cV 0)) (aCons (cVl (cV 2)) aNil)))) finL)) (sRet (cB allO (cCons (cComp (iRg1 (cCons (cD (.int 20)) cNil)) [2] (step1 (gN 2) cYes (cCall f_law_right (aCons (cVl (cSub (cV 1) (cOp2 (liftD modD) (cB intO (cCons (cV 2) cNil)) (cB lenO (cCons (cV 1) cNil))))) aNil))) finL) cNil))))
def f_law : List DC → Mo D := frm (fnOf 3 b_law)
theorem k_law (L : LW) : ∃ fd, DefOk L TQ cl d_law (He.fAd L.K d_law.at_) fd 14 ["script"] 1 f_law := by
  obtain ⟨fd, F⟩ := L.def_ 27 (d := d_law) rfl
  obtain ⟨fd_law_well, K_law_well⟩ := k_law_well L
  obtain ⟨fd_law_right, K_law_right⟩ := k_law_right L
  refine ⟨fd, F, FunD.bindsN F fun _ _ _ _ _ _ us hl => match us, hl with | [_], _ => rfl, fun b B kc => ?_⟩
  refine FnOk.frm (G := L.G TQ cl b kc) (b := b) ?_
  refine fn_okD (G := L.G TQ cl b kc) (k := kc + 13) (N := N_law) (r := retD) (b := b_law) F sc_law rfl (by decide) retD_ok fun cdv hcd A outer s H E C => ?_
  exact (ss_cons (sp_asg sc_law.nd rfl (by first | exact Or.inl rfl | exact Or.inr rfl) (se_comp (own := [("lap", 2)]) C sc_law.nd (.inl rfl) (si_range1 (by rfl) (L.free 3) (sl_cons (se_callB (call_max2 C.calm) int2O_op (by rfl) (L.free 2) bt_max (sl_cons se_int (sl_cons (se_callB (call_min2 C.calm) int2O_op (by rfl) (L.free 1) bt_min (sl_cons (se_callB call_lenA lenO_op (by rfl) (L.free 0) bt_len (sl_cons (se_var (pv 0)) sl_nil)) (sl_cons se_int sl_nil))) sl_nil))) sl_nil)) (blkOk_by (by kernel_rfl)) (fun _ _ _ _ _ C => (sw_name (pg_name sc_law.nd rfl (by first | exact Or.inl rfl | exact Or.inr rfl)) (by decide))) (fun _ _ _ _ _ C => st_yes) (fun _ _ _ _ _ C => (se_call C ⟨rfl⟩ (K_law_well.ok b B kc) (by omega) (by rfl) (L.glo 6) K_law_well.F.kp K_law_well.bd (len_cons (len_cons len_nil)) (sa_cons (sx_val ⟨rfl⟩ (se_var (pv 0))) (sa_cons (sx_val ⟨rfl⟩ (se_var (pv 2))) sa_nil))))))
    (ss_one (sp_ret (se_callB (cr_all C.calm) allO_op (by rfl) (L.free 26) bt_all (sl_cons (se_comp (own := [("lap", 2)]) C sc_law.nd (.inl rfl) (si_range1 (by rfl) (L.free 3) (sl_cons se_int sl_nil)) (blkOk_by (by kernel_rfl)) (fun _ _ _ _ _ C => (sw_name (pg_name sc_law.nd rfl (by first | exact Or.inl rfl | exact Or.inr rfl)) (by decide))) (fun _ _ _ _ _ C => st_yes) (fun _ _ _ _ _ C => (se_call C ⟨rfl⟩ (K_law_right.ok b B kc) (by omega) (by rfl) (L.glo 51) K_law_right.F.kp K_law_right.bd (len_cons len_nil) (sa_cons (sx_val ⟨rfl⟩ (se_sub2 C (se_var (pv 1)) (se_mod (se_callTy call_int1 intO_op (by rfl) (L.free 4) bt_int (sl_cons (se_var (pv 2)) sl_nil)) (se_callB call_lenA lenO_op (by rfl) (L.free 0) bt_len (sl_cons (se_var (pv 1)) sl_nil))))) sa_nil)))) sl_nil)))))
end K57

set_option Elab.async false
set_option linter.all false
set_option autoImplicit false
set_option maxRecDepth 100000
set_option maxHeartbeats 4000000
namespace Zp
open PySem PySem.Spec PyProof.Rows L2
/-! ### running plain functions on integers -/
section
variable {ρ : Ev} {st st1 st2 : List Cell} {f g c : Ev → Mo D}
/-- the expression c, there, is worth d and leaves all as it is -/
def Ev1 (c : Ev → Mo D) (ρ : Ev) (st : List Cell) (d : D) : Prop := c ρ st = .ok d st
theorem ev_v {i : Nat} {d : D} (h : ρ[i]? = some (some (.v d)) := by rfl) : Ev1 (cV i) ρ st d := by
  unfold Ev1 cV; rw [h]
theorem ev_d {d : PyData} : Ev1 (cD d) ρ st (.dat d) := rfl
theorem ev_op {o : PyData → PyData → Option PyData} {a b z : PyData} (ha : Ev1 f ρ st (.dat a)) (hb : Ev1 g ρ st (.dat b)) (h : o a b = some z) : Ev1 (cOp2 (liftD o) f g) ρ st (.dat z) := by
  unfold Ev1 at *
  unfold cOp2
  rw [ha]
  show (g ρ st).bind _ = _
  rw [hb]
  show (match o a b with | some z => Out.ok (D.dat z) st | none => .bad) = _
  rw [h]
theorem ev_add {i j : Int} (ha : Ev1 f ρ st (.dat (.int i))) (hb : Ev1 g ρ st (.dat (.int j))) : Ev1 (cOp2 (liftD addD) f g) ρ st (.dat (.int (i + j))) := ev_op ha hb rfl
theorem ev_sub {i j : Int} (ha : Ev1 f ρ st (.dat (.int i))) (hb : Ev1 g ρ st (.dat (.int j))) : Ev1 (cOp2 (liftD subD) f g) ρ st (.dat (.int (i - j))) := ev_op ha hb rfl
theorem okMul_of {i j : Int} (h : (-(2 ^ 64) < i ∧ i < 2 ^ 64) ∨ (-(2 ^ 64) < j ∧ j < 2 ^ 64)) : okMul i j = true := by
  unfold okMul
  rcases h with ⟨h1, h2⟩ | ⟨h1, h2⟩
  · rw [decide_eq_true h1, decide_eq_true h2]; rfl
  · rw [decide_eq_true h1, decide_eq_true h2, Bool.and_self, Bool.or_true]
theorem ev_mul {i j : Int} (ha : Ev1 f ρ st (.dat (.int i))) (hb : Ev1 g ρ st (.dat (.int j))) (h : (-(2 ^ 64) < i ∧ i < 2 ^ 64) ∨ (-(2 ^ 64) < j ∧ j < 2 ^ 64)) : Ev1 (cOp2 (liftD mulD) f g) ρ st (.dat (.int (i * j))) :=
  ev_op ha hb (by show (if okMul i j = true then some (PyData.int (i * j)) else none) = _; rw [if_pos (okMul_of h)])
theorem ev_mod {i j : Int} (ha : Ev1 f ρ st (.dat (.int i))) (hb : Ev1 g ρ st (.dat (.int j))) (h : 0 < j) : Ev1 (cOp2 (liftD modD) f g) ρ st (.dat (.int (i % j))) :=
  ev_op ha hb (by show Option.map PyData.int (if 0 < j then some (i % j) else none) = _; rw [if_pos h]; rfl)
theorem ev_fdiv {i j : Int} (ha : Ev1 f ρ st (.dat (.int i))) (hb : Ev1 g ρ st (.dat (.int j))) (h : 0 < j ∧ j < 1073741824) : Ev1 (cOp2 (liftD fdivD) f g) ρ st (.dat (.int (i / j))) :=
  ev_op ha hb (by show Option.map PyData.int (if 0 < j ∧ j < 1073741824 then some (i / j) else none) = _; rw [if_pos h]; rfl)
theorem ev_int {i : Int} (ha : Ev1 f ρ st (.dat (.int i))) : Ev1 (cB intO (cCons f cNil)) ρ st (.dat (.int i)) := by
  unfold Ev1 at *
  unfold cB cCons
  rw [ha]; rfl
theorem ev_ix {n : Nat} {l : List PyData} {k : Int} {x : PyData} (ha : Ev1 f ρ st (.ref n)) (hl : st[n]? = some (.lst l)) (hb : Ev1 g ρ st (.dat (.int k))) (h : atI l k = some x := by rfl) : Ev1 (cSub f g) ρ st (.dat x) := by
  unfold Ev1 at *
  unfold cSub cOp2
  rw [ha]
  show (g ρ st).bind _ = _
  rw [hb]
  show (match st[n]? with | some (.lst l) => (match atI l k with | some d => Out.ok (D.dat d) st | none => .bad) | some (.dic _ l) => _ | _ => .bad) = _
  rw [hl]
  show (match atI l k with | some d => Out.ok (D.dat d) st | none => .bad) = _
  rw [h]
/-! statements -/
theorem st_asg {i : Nat} {d : D} {k : Cs} (h : Ev1 c ρ st d) : sSeq (sAsg i c) k ρ st = k (ρ.set i (some (.v d))) st := by
  unfold sSeq sAsg
  rw [show c ρ st = .ok d st from h]; rfl
theorem st_ret {d : D} (h : Ev1 c ρ st d) : sRet c ρ st = .ok (.rt d) st := by
  unfold sRet
  rw [show c ρ st = .ok d st from h]; rfl
theorem put_at {n j : Nat} {l : List PyData} {k : Int} {x : PyData} (hl : st[n]? = some (.lst l)) (hj : ixN l.length k = some j) : putAtA (.ref n) (.dat (.int k)) (.dat x) st = .ok () (st.set n (.lst (l.set j x))) := by
  show (match st[n]? with | some (.lst l) => (match ixN l.length k with | some j => Out.ok () (st.set n (.lst (l.set j x))) | none => .bad) | some (.dic false l) => _ | _ => .bad) = _
  rw [hl]
  show (match ixN l.length k with | some j => Out.ok () (st.set n (.lst (l.set j x))) | none => .bad) = _
  rw [hj]
/-- x[i] = c, a list's place -/
theorem st_put {n j : Nat} {l l' : List PyData} {k : Int} {x : PyData} {fo fi : Ev → Mo D} {r : Cs} (h : Ev1 c ρ st (.dat x)) (ho : Ev1 fo ρ st (.ref n)) (hi : Ev1 fi ρ st (.dat (.int k))) (hl : st[n]? = some (.lst l)) (hj : ixN l.length k = some j) (hl' : l.set j x = l') :
    sSeq (sAsgG (gSub fo fi) c) r ρ st = r ρ (st.set n (.lst l')) := by
  subst hl'
  unfold sSeq sAsgG gSub
  rw [show c ρ st = .ok (.dat x) st from h]
  show (((fo ρ st).bind _).bind _).bind _ = _
  rw [show fo ρ st = .ok (.ref n) st from ho]
  show (((fi ρ st).bind _).bind _).bind _ = _
  rw [show fi ρ st = .ok (.dat (.int k)) st from hi]
  have e : putAtA (.ref n) (.dat (.int k)) (.dat x) st = .ok () (st.set n (.lst (l.set j x))) := by
    show (match st[n]? with | some (.lst l) => (match ixN l.length k with | some j => Out.ok () (st.set n (.lst (l.set j x))) | none => .bad) | some (.dic false l) => _ | _ => .bad) = _
    rw [hl]
    show (match ixN l.length k with | some j => Out.ok () (st.set n (.lst (l.set j x))) | none => .bad) = _
    rw [hj]
  show (((putAtA (.ref n) (.dat (.int k)) (.dat x) st).bind _).bind _).bind _ = _
  rw [e]; rfl
theorem st_if {t : Ev → Mo Bool} {b : Bool} {u v k : Cs} (h : t ρ st = .ok b st) : sSeq (sIf t u v) k ρ st = if b = true then sSeq u k ρ st else sSeq v k ρ st := by
  unfold sSeq sIf
  rw [h]
  cases b <;> rfl
theorem st_nx {k : Cs} : sSeq sNx k ρ st = k ρ st := rfl
theorem t_cmp {i j : Int} {op : CmpOp} {b : Bool} (ha : Ev1 f ρ st (.dat (.int i))) (hb : Ev1 g ρ st (.dat (.int j))) (h : cmpD op (.int i) (.int j) = some b) : cBl (cCmp op f g) ρ st = .ok b st := by
  have e : Ev1 (cCmp op f g) ρ st (.dat (.bool b)) := ev_op ha hb (by rw [h]; rfl)
  unfold cBl
  rw [show cCmp op f g ρ st = _ from e]; rfl
end
theorem alike_int (i j : Int) : okLt (.int i) (.int j) = true := rfl
theorem cmp_lt (i j : Int) : cmpD .Lt (.int i) (.int j) = some (decide (i < j)) := by
  show (if okLt (.int i) (.int j) = true then some (PySem.W.dataLt (.int i) (.int j)) else none) = _
  rw [if_pos (alike_int i j), PySem.W.dataLt_int]
theorem cmp_gt (i j : Int) : cmpD .Gt (.int i) (.int j) = some (decide (j < i)) := by
  show (if okLt (.int i) (.int j) = true then some (PySem.W.dataLt (.int j) (.int i)) else none) = _
  rw [if_pos (alike_int i j), PySem.W.dataLt_int]
theorem cmp_ge (i j : Int) : cmpD .GtE (.int i) (.int j) = some (decide (j ≤ i)) := by
  show (if okLt (.int i) (.int j) = true then some (!PySem.W.dataLt (.int i) (.int j)) else none) = _
  rw [if_pos (alike_int i j), PySem.W.dataLt_int]
  congr 1
  by_cases h : i < j
  · rw [decide_eq_true h, decide_eq_false (by omega)]; rfl
  · rw [decide_eq_false h, decide_eq_true (by omega)]; rfl
theorem pylong_no {i j : Int} (h : 0 < j) (h2 : j < 2 ^ 62) : Builtin.divisionGoesByPylong i j = false := by
  unfold Builtin.divisionGoesByPylong
  have e : (j == 0) = false := by rw [beq_eq_false_iff_ne]; omega
  have l : j.natAbs.log2 < 62 := by
    rw [Nat.log2_lt (by omega)]
    omega
  simp only [e, Bool.false_eq_true, if_false]
  have : ¬ (j.natAbs.log2 / 30 + 1 > 300) := by omega
  rw [decide_eq_false this]; rfl
/-! a def's end -/
theorem fn_dat {N : Nat} {b : Cs} {ds : List DC} {st st' : List Cell} {x : PyData} (h : b (startE N ds) st = .ok (.rt (.dat x)) st') : fnOf N b ds st = .ok (.dat x) (st'.take st.length) := by
  show fnWith retD N b ds st = _
  unfold fnWith
  rw [h]; rfl
theorem renC_nil : ∀ {ds : List DC}, refsOf ds = some [] → ds.map (renC []) = ds := fun {ds} h => by
  have h2 := refsOf_arg h
  clear h
  induction ds with
  | nil => rfl
  | cons x r ih =>
    rw [List.map_cons, ih fun y hy => h2 y (List.mem_cons_of_mem _ hy)]
    obtain ⟨d, rfl, hd⟩ := h2 x List.mem_cons_self
    rcases hd with ⟨k, _, hk⟩ | hl
    · simp at hk
    · cases d with
      | ref k => simp [low] at hl
      | _ => rfl
theorem frm_pure {g : List DC → Mo D} {ds : List DC} {st : List Cell} {d : D} (h : refsOf ds = some []) (ok : okFr [] st = true) (e : g ds [] = .ok d []) (hd : low 0 d = true) : frm g ds st = .ok d st := by
  unfold frm
  rw [h]
  show (if okFr [] st = true then _ else _) = _
  rw [if_pos ok, renC_nil h]
  show (match g ds [] with | .ok d st2 => _ | .exc e st2 => _ | .bad => _) = _
  rw [e]
  cases d with
  | ref k => simp [low] at hd
  | _ =>
    show (if low 0 _ = true then Out.ok _ (st ++ []) else .bad) = _
    rw [if_pos hd, List.append_nil]
/-- a list that the def makes -/
theorem frm_new {g : List DC → Mo D} {ds : List DC} {st : List Cell} {c : Cell} (h : refsOf ds = some []) (ok : okFr [] st = true) (e : g ds [] = .ok (.ref 0) [c]) : frm g ds st = .ok (.ref st.length) (st ++ [c]) := by
  unfold frm
  rw [h]
  show (if okFr [] st = true then _ else _) = _
  rw [if_pos ok, renC_nil h]
  show (match g ds [] with | .ok d st2 => _ | .exc e st2 => _ | .bad => _) = _
  rw [e]; rfl
theorem frm_one {g : List DC → Mo D} {ds : List DC} {st : List Cell} {k : Nat} {c c' : Cell} {d : D} (h : refsOf ds = some [k]) (hc : st[k]? = some c) (ok : okFr [k] st = true) (e : g (ds.map (renC [k])) [c] = .ok d [c']) (hd : low 0 d = true) : frm g ds st = .ok d (st.set k c') := by
  unfold frm
  rw [h]
  show (if okFr [k] st = true then _ else _) = _
  rw [if_pos ok]
  have es : subC [k] st = [c] := by
    unfold subC
    rw [List.map_cons, List.map_nil, List.getD_eq_getElem?_getD, hc]; rfl
  rw [es]
  show (match g (ds.map (renC [k])) [c] with | .ok d st2 => _ | .exc e st2 => _ | .bad => _) = _
  rw [e]
  cases d with
  | ref k => simp [low] at hd
  | _ =>
    show (if low 0 _ = true then Out.ok _ (st.set k c' ++ []) else .bad) = _
    rw [if_pos hd, List.append_nil]
theorem okFr_of {ks : List Nat} {st : List Cell} (h1 : ∀ k ∈ ks, k < st.length) (h2 : ∀ c ∈ st, hidC c = true) : okFr ks st = true := by
  unfold okFr
  rw [Bool.and_eq_true, List.all_eq_true, List.all_eq_true]
  refine ⟨fun k hk => decide_eq_true (h1 k hk), fun j hj => ?_⟩
  have hj := List.mem_range.mp hj
  rw [List.getD_eq_getElem?_getD, List.getElem?_eq_getElem hj]
  show (decide (j ∈ ks) || hidC st[j]) = true
  rw [h2 _ (List.getElem_mem hj), Bool.or_true]
theorem set_take {st : List Cell} {n : Nat} {c : Cell} : (st.set n c).take st.length = st.set n c := List.take_of_length_le (by rw [List.length_set]; exact Nat.le_refl _)
theorem set_get {st : List Cell} {n : Nat} {c c' : Cell} (h : st[n]? = some c) : (st.set n c')[n]? = some c' := by
  have := (List.getElem?_eq_some_iff.mp h).1
  rw [List.getElem?_set_self this]
end Zp

set_option Elab.async false
set_option linter.all false
set_option autoImplicit false
set_option maxRecDepth 100000
set_option maxHeartbeats 4000000
namespace Zp
open PySem PySem.Spec PyProof.Rows L2
/-! ### draws from a well (the laws k50 .. k74) -/
def isWell (c : Cell) : Prop := ∃ a b k : Int, c = .lst [.int a, .int b, .int k] ∧ 0 ≤ a ∧ 0 ≤ b ∧ b < 2147483587 ∧ 0 ≤ k
def wbDraw : Cs := (sSeq (sIf (cBl (cCmp .Gt (cSub (cV 0) (cD (.int 0))) (cD (.int 0)))) (sSeq (sAsgG (gT 2 (gsCons (gSub (cV 0) (cD (.int 0))) (gsCons (gN 2) gsNil))) (cB divmodO (cCons (cSub (cV 0) (cD (.int 0))) (cCons (cV 1) cNil)))) (sRet (cV 2))) sNx) (sSeq (sAsgG (gSub (cV 0) (cD (.int 2))) (cOp2 (liftD addD) (cSub (cV 0) (cD (.int 2))) (cD (.int 1)))) (sSeq (sAsg 3 (cOp2 (liftD modD) (cB intO (cCons (cOp2 (liftD addD) (cOp2 (liftD addD) (cOp2 (liftD mulD) (cSub (cV 0) (cD (.int 1))) (cD (.int 40009))) (cOp2 (liftD mulD) (cD (.int 15013)) (cSub (cV 0) (cD (.int 2))))) (cD (.int 3))) cNil)) (cD (.int 2147483587)))) (sSeq (sAsgG (gSub (cV 0) (cD (.int 1))) (cOp2 (liftD modD) (cB intO (cCons (cOp2 (liftD addD) (cOp2 (liftD mulD) (cV 3) (cOp2 (liftD addD) (cOp2 (liftD modD) (cB intO (cCons (cV 3) cNil)) (cD (.int 5003))) (cD (.int 20011)))) (cSub (cV 0) (cD (.int 2)))) cNil)) (cD (.int 2147483587)))) (sRet (cOp2 (liftD modD) (cB intO (cCons (cOp2 (liftD fdivD) (cSub (cV 0) (cD (.int 1))) (cD (.int 1031))) cNil)) (cV 1)))))))
def wDraw0 : List DC → Mo D := fnOf 4 wbDraw
theorem wDraw0_ok {st : List Cell} {n : Nat} {c : Cell} (h : st[n]? = some c) (w : isWell c) {lim : Int} (hl : 0 < lim) (hl2 : lim < 2 ^ 62) :
    ∃ x c', 0 ≤ x ∧ x < lim ∧ isWell c' ∧ wDraw0 [.v (.ref n), .v (.dat (.int lim))] st = .ok (.dat (.int x)) (st.set n c') := by
  obtain ⟨a, b, k, rfl, ha, hb, hb2, hk⟩ := w
  have hn := (List.getElem?_eq_some_iff.mp h).1
  have start : startE 4 [.v (.ref n), .v (.dat (.int lim))] = [some (.v (.ref n)), some (.v (.dat (.int lim))), none, none] := rfl
  by_cases hp : 0 < a
  · refine ⟨a % lim, .lst [.int (a / lim), .int b, .int k], Int.emod_nonneg _ (by omega), Int.emod_lt_of_pos _ hl, ⟨_, b, k, rfl, Int.ediv_nonneg ha (by omega), hb, hb2, hk⟩, ?_⟩
    have body : wbDraw (startE 4 [.v (.ref n), .v (.dat (.int lim))]) st = .ok (.rt (.dat (.int (a % lim)))) (st.set n (.lst [.int (a / lim), .int b, .int k])) := by
      rw [start]
      unfold wbDraw
      rw [st_if (b := true) (t_cmp (i := a) (j := 0) (ev_ix (n := n) ev_v h ev_d) ev_d (by rw [cmp_gt, decide_eq_true hp])), if_pos rfl]
      have e0 : Ev1 (cSub (cV 0) (cD (.int 0))) [some (.v (.ref n)), some (.v (.dat (.int lim))), none, none] st (.dat (.int a)) := ev_ix (n := n) ev_v h ev_d
      have e1 : Ev1 (cB divmodO (cCons (cSub (cV 0) (cD (.int 0))) (cCons (cV 1) cNil))) [some (.v (.ref n)), some (.v (.dat (.int lim))), none, none] st (.dat (.tuple [.int (a / lim), .int (a % lim)])) := by
        unfold Ev1 cB cCons at *
        rw [e0]
        show (if 0 < lim ∧ Builtin.divisionGoesByPylong a lim = false then _ else _) = _
        rw [if_pos ⟨hl, pylong_no hl hl2⟩]
      have e2 : putAtA (.ref n) (.dat (.int 0)) (.dat (.int (a / lim))) st = .ok () (st.set n (.lst [.int (a / lim), .int b, .int k])) := by
        exact put_at (j := 0) h rfl
      have e3 : sAsgG (gT 2 (gsCons (gSub (cV 0) (cD (.int 0))) (gsCons (gN 2) gsNil))) (cB divmodO (cCons (cSub (cV 0) (cD (.int 0))) (cCons (cV 1) cNil))) [some (.v (.ref n)), some (.v (.dat (.int lim))), none, none] st =
          .ok (.nx [some (.v (.ref n)), some (.v (.dat (.int lim))), some (.v (.dat (.int (a % lim)))), none]) (st.set n (.lst [.int (a / lim), .int b, .int k])) := by
        unfold sAsgG
        rw [e1]
        show (((putAtA (.ref n) (.dat (.int 0)) (.dat (.int (a / lim))) st).bind _).bind _).bind _ = _
        rw [e2]; rfl
      unfold sSeq
      rw [e3]; rfl
    have := fn_dat body
    rw [set_take] at this
    exact this
  · have hk2 : st.set n (.lst [.int a, .int b, .int (k + 1)]) = st.set n (.lst ([PyData.int a, .int b, .int k].set 2 (.int (k + 1)))) := rfl
    let m : Int := (b * 40009 + 15013 * (k + 1) + 3) % 2147483587
    have hm : 0 ≤ m ∧ m < 2147483587 := ⟨Int.emod_nonneg _ (by omega), Int.emod_lt_of_pos _ (by omega)⟩
    let b' : Int := (m * (m % 5003 + 20011) + (k + 1)) % 2147483587
    have hb' : 0 ≤ b' ∧ b' < 2147483587 := ⟨Int.emod_nonneg _ (by omega), Int.emod_lt_of_pos _ (by omega)⟩
    refine ⟨(b' / 1031) % lim, .lst [.int a, .int b', .int (k + 1)], Int.emod_nonneg _ (by omega), Int.emod_lt_of_pos _ hl, ⟨a, b', k + 1, rfl, ha, hb'.1, hb'.2, by omega⟩, ?_⟩
    have h1 : (st.set n (.lst [.int a, .int b, .int (k + 1)]))[n]? = some (.lst [.int a, .int b, .int (k + 1)]) := set_get h
    have h2 : ((st.set n (.lst [.int a, .int b, .int (k + 1)])).set n (.lst [.int a, .int b', .int (k + 1)]))[n]? = some (.lst [.int a, .int b', .int (k + 1)]) := set_get h1
    have body : wbDraw (startE 4 [.v (.ref n), .v (.dat (.int lim))]) st = .ok (.rt (.dat (.int ((b' / 1031) % lim)))) (st.set n (.lst [.int a, .int b', .int (k + 1)])) := by
      rw [start]
      unfold wbDraw
      rw [st_if (b := false) (t_cmp (i := a) (j := 0) (ev_ix (n := n) ev_v h ev_d) ev_d (by rw [cmp_gt, decide_eq_false hp])), if_neg Bool.false_ne_true, st_nx]
      rw [st_put (n := n) (j := 2) (k := 2) (l := [.int a, .int b, .int k]) (x := .int (k + 1)) (ev_add (ev_ix (n := n) (x := .int k) ev_v h ev_d) ev_d) ev_v ev_d h rfl (l' := [.int a, .int b, .int (k + 1)]) rfl]
      rw [st_asg (d := .dat (.int m)) (ev_mod (ev_int (ev_add (ev_add (ev_mul (ev_ix (n := n) (x := .int b) ev_v h1 ev_d) ev_d (.inr (by omega))) (ev_mul ev_d (ev_ix (n := n) (x := .int (k + 1)) ev_v h1 ev_d) (.inl (by omega)))) ev_d)) ev_d (by omega))]
      rw [st_put (n := n) (j := 1) (k := 1) (l := [.int a, .int b, .int (k + 1)]) (x := .int b') (ev_mod (ev_int (ev_add (ev_mul (ev_v (d := .dat (.int m))) (ev_add (ev_mod (ev_int (ev_v (d := .dat (.int m)))) ev_d (by omega)) ev_d) (.inl (by omega))) (ev_ix (n := n) (x := .int (k + 1)) ev_v h1 ev_d))) ev_d (by omega)) ev_v ev_d h1 rfl (l' := [.int a, .int b', .int (k + 1)]) rfl]
      rw [st_ret (ev_mod (ev_int (ev_fdiv (ev_ix (n := n) (x := .int b') ev_v h2 ev_d) ev_d (by omega))) ev_v hl)]
      show Out.ok _ ((st.set n _).set n _) = _
      rw [List.set_set]
    have := fn_dat body
    rw [set_take] at this
    exact this
def wDraw : List DC → Mo D := frm wDraw0
def allH (st : List Cell) : Prop := ∀ c ∈ st, hidC c = true
theorem isWell.hid {c : Cell} (w : isWell c) : hidC c = true := by
  obtain ⟨a, b, k, rfl, _⟩ := w; rfl
theorem wDraw_ok {st : List Cell} {n : Nat} {c : Cell} (h : st[n]? = some c) (w : isWell c) (hh : allH st) {lim : Int} (hl : 0 < lim) (hl2 : lim < 2 ^ 62) :
    ∃ x c', 0 ≤ x ∧ x < lim ∧ isWell c' ∧ wDraw [.v (.ref n), .v (.dat (.int lim))] st = .ok (.dat (.int x)) (st.set n c') := by
  obtain ⟨x, c', h1, h2, w', e⟩ := wDraw0_ok (st := [c]) (n := 0) rfl w hl hl2
  refine ⟨x, c', h1, h2, w', frm_one (k := n) rfl h (okFr_of (fun k hk => ?_) hh) ?_ rfl⟩
  · rw [List.mem_singleton.mp hk]; exact (List.getElem?_eq_some_iff.mp h).1
  · show wDraw0 [.v (.ref ([n].idxOf n)), .v (.dat (.int lim))] [c] = _
    rw [List.idxOf_cons_self]
    exact e
theorem allH.set {st : List Cell} {n : Nat} {c : Cell} (h : allH st) (w : hidC c = true) : allH (st.set n c) := fun x hx => by
  rcases List.mem_or_eq_of_mem_set hx with z | z
  · exact h x z
  · rw [z]; exact w
end Zp

set_option Elab.async false
set_option linter.all false
set_option autoImplicit false
set_option maxRecDepth 100000
set_option maxHeartbeats 4000000
namespace Zp
open PySem PySem.Spec PyProof.Rows L2
def dI (i : Int) : D := .dat (.int i)
def scrD (ns : List Int) : D := .lst (ns.map dI)
theorem datAll_map (l : List PyData) : datAll (l.map .dat) = some l := by
  induction l with
  | nil => rfl
  | cons x r ih => rw [List.map_cons, datAll, ih]; rfl
theorem map_dI (ns : List Int) : ns.map dI = (ns.map PyData.int).map D.dat := by rw [List.map_map]; rfl
theorem mkLst_ints (ns : List Int) : mkLst (ns.map dI) = .dat (.list (ns.map .int)) := by
  unfold mkLst
  rw [map_dI, datAll_map]
theorem cutL_map {α β : Type} (f : α → β) (l : List α) (lo hi : Option Int) : cutL (l.map f) lo hi = (cutL l lo hi).map f := by
  unfold cutL
  rw [List.length_map, List.map_take, List.map_drop]
section
variable {ρ : Ev} {st : List Cell} {f g c : Ev → Mo D}
theorem ev_abs {i : Int} (ha : Ev1 f ρ st (.dat (.int i))) : Ev1 (cB absO (cCons f cNil)) ρ st (.dat (.int (if i < 0 then -i else i))) := by
  unfold Ev1 at *
  unfold cB cCons
  rw [ha]; rfl
theorem ev_lenL {l : List D} (ha : Ev1 f ρ st (.lst l)) : Ev1 (cB lenO (cCons f cNil)) ρ st (.dat (.int l.length)) := by
  unfold Ev1 at *
  unfold cB cCons
  rw [ha]; rfl
theorem ev_ixL {l : List D} {k : Int} {x : D} (ha : Ev1 f ρ st (.lst l)) (hb : Ev1 g ρ st (.dat (.int k))) (h : atI l k = some x) : Ev1 (cSub f g) ρ st x := by
  unfold Ev1 at *
  unfold cSub cOp2
  rw [ha]
  show (g ρ st).bind _ = _
  rw [hb]
  show (match atI l k with | some d => Out.ok d st | none => .bad) = _
  rw [h]
theorem ev_if {t : Ev → Mo Bool} {b : Bool} {d : D} (h : t ρ st = .ok b st) (h1 : b = true → Ev1 f ρ st d) (h2 : b = false → Ev1 g ρ st d) : Ev1 (cIf t f g) ρ st d := by
  unfold Ev1 at *
  unfold cIf
  rw [h]
  cases b with
  | true => exact h1 rfl
  | false => exact h2 rfl
theorem t_or {t u : Ev → Mo Bool} {a b : Bool} (h1 : t ρ st = .ok a st) (h2 : u ρ st = .ok b st) : cOrT t u ρ st = .ok (a || b) st := by
  unfold cOrT
  rw [h1]
  cases a with
  | true => rfl
  | false => exact h2
theorem el_nil : cNil ρ st = .ok [] st := rfl
theorem el_cons {r : Ev → Mo (List D)} {d : D} {ds : List D} (h : Ev1 f ρ st d) (hr : r ρ st = .ok ds st) : cCons f r ρ st = .ok (d :: ds) st := by
  unfold cCons
  rw [show f ρ st = .ok d st from h]
  show (r ρ st).bind _ = _
  rw [hr]; rfl
theorem atI_map {α β : Type} (f : α → β) (l : List α) (k : Int) : atI (l.map f) k = (atI l k).map f := by
  unfold atI
  rw [List.length_map]
  cases ixN l.length k with
  | none => rfl
  | some j => show (l.map f)[j]? = _; rw [List.getElem?_map]; rfl
end
def wbWell : Cs := (sSeq (sAsg 2 (cOp2 (liftD addD) (cD (.int 704969)) (cOp2 (liftD mulD) (cD (.int 6121)) (cV 1)))) (sSeq (sFor (iAny (cSl (cV 0) oN (oS (cD (.int 16))))) (gN 3) (sAsg 2 (cOp2 (liftD modD) (cB intO (cCons (cOp2 (liftD addD) (cOp2 (liftD addD) (cOp2 (liftD mulD) (cV 2) (cD (.int 48271))) (cOp2 (liftD modD) (cB intO (cCons (cV 3) cNil)) (cD (.int 2147483549)))) (cD (.int 23))) cNil)) (cD (.int 2147483587))))) (sSeq (sAsg 4 (cIf (cBl (cCmp .Lt (cV 1) (cB lenO (cCons (cV 0) cNil)))) (cB intO (cCons (cSub (cV 0) (cV 1)) cNil)) (cD (.int 0)))) (sSeq (sAsg 2 (cOp2 (liftD modD) (cB intO (cCons (cOp2 (liftD addD) (cOp2 (liftD addD) (cOp2 (liftD mulD) (cV 2) (cD (.int 53))) (cOp2 (liftD mulD) (cOp2 (liftD modD) (cB intO (cCons (cV 4) cNil)) (cD (.int 2147483549))) (cD (.int 15013)))) (cD (.int 11))) cNil)) (cD (.int 2147483587)))) (sRet (cLstM (cCons (cIf (cOrT (cBl (cCmp .Lt (cV 4) (cD (.int 0)))) (cBl (cCmp .GtE (cV 4) (cOp2 (liftD powD) (cD (.int 10)) (cD (.int 15)))))) (cB absO (cCons (cV 4) cNil)) (cD (.int 0))) (cCons (cV 2) (cCons (cD (.int 0)) cNil)))))))))
def wWell0 : List DC → Mo D := fnKeep 5 wbWell
def wTurn : Cs := sAsg 2 (cOp2 (liftD modD) (cB intO (cCons (cOp2 (liftD addD) (cOp2 (liftD addD) (cOp2 (liftD mulD) (cV 2) (cD (.int 48271))) (cOp2 (liftD modD) (cB intO (cCons (cV 3) cNil)) (cD (.int 2147483549)))) (cD (.int 23))) cNil)) (cD (.int 2147483587)))
theorem asg_only {ρ : Ev} {st : List Cell} {c : Ev → Mo D} {i : Nat} {d : D} (h : Ev1 c ρ st d) : sAsg i c ρ st = .ok (.nx (ρ.set i (some (.v d)))) st := by
  unfold sAsg
  rw [show c ρ st = .ok d st from h]; rfl
theorem wLoop (a b : Option DC) (st : List Cell) : ∀ (ms : List Int) (s : Int) (o : Option DC), 0 ≤ s → ∃ s' o', 0 ≤ s' ∧ forL (gN 3) wTurn ((ms.map PyData.int).map D.dat) [a, b, some (.v (dI s)), o, none] st = .ok (.nx [a, b, some (.v (dI s')), o', none]) st
  | [], s, o, h => ⟨s, o, h, rfl⟩
  | m :: ms, s, o, h => by
    have h2 : 0 ≤ (s * 48271 + m % 2147483549 + 23) % 2147483587 := Int.emod_nonneg _ (by omega)
    obtain ⟨s', o', h3, e⟩ := wLoop a b st ms ((s * 48271 + m % 2147483549 + 23) % 2147483587) (some (.v (dI m))) h2
    refine ⟨s', o', h3, ?_⟩
    rw [List.map_cons, List.map_cons, forL]
    have e1 : wTurn [a, b, some (.v (dI s)), some (.v (dI m)), none] st = .ok (.nx [a, b, some (.v (dI ((s * 48271 + m % 2147483549 + 23) % 2147483587))), some (.v (dI m)), none]) st := by
      unfold wTurn
      rw [asg_only (d := dI ((s * 48271 + m % 2147483549 + 23) % 2147483587)) (ev_mod (ev_int (ev_add (ev_add (ev_mul (ev_v (d := dI s)) ev_d (.inr (by omega))) (ev_mod (ev_int (ev_v (d := dI m))) ev_d (by omega))) ev_d)) ev_d (by omega))]
      rfl
    show ((wTurn [a, b, some (.v (dI s)), some (.v (dI m)), none] st).bind _) = _
    rw [e1]
    exact e
theorem wWell0_ok (ns : List Int) (lap : Nat) (st : List Cell) : ∃ c, isWell c ∧ wWell0 [.v (scrD ns), .v (dI lap)] st = .ok (.ref st.length) (st ++ [c]) := by
  obtain ⟨s1, o1, h1, e1⟩ := wLoop (some (.v (scrD ns))) (some (.v (dI lap))) st (cutL ns none (some 16)) (704969 + 6121 * lap) none (by omega)
  have hown : ∃ own : Int, Ev1 (cIf (cBl (cCmp .Lt (cV 1) (cB lenO (cCons (cV 0) cNil)))) (cB intO (cCons (cSub (cV 0) (cV 1)) cNil)) (cD (.int 0))) [some (.v (scrD ns)), some (.v (dI lap)), some (.v (dI s1)), o1, none] st (dI own) := by
    have et := t_cmp (ρ := [some (.v (scrD ns)), some (.v (dI lap)), some (.v (dI s1)), o1, none]) (st := st) (f := cV 1) (g := cB lenO (cCons (cV 0) cNil)) (op := .Lt) (ev_v (i := 1) (d := dI lap)) (ev_lenL (ev_v (i := 0) (d := scrD ns))) (cmp_lt _ _)
    by_cases hl : (lap : Int) < ((ns.map dI).length : Int)
    · have hl2 : lap < ns.length := by rw [List.length_map] at hl; omega
      have hx : atI ns (lap : Int) = some ns[lap] := by
        unfold atI ixN
        rw [if_pos (by omega), if_pos (by omega)]
        show ns[(lap : Int).toNat]? = _
        rw [Int.toNat_natCast, List.getElem?_eq_getElem hl2]
      refine ⟨ns[lap], ev_if et (fun _ => ?_) fun z => ?_⟩
      · exact ev_int (ev_ixL (ev_v (i := 0) (d := scrD ns)) (ev_v (i := 1) (d := dI lap)) (by rw [atI_map, hx]; rfl))
      · rw [decide_eq_true hl] at z; cases z
    · refine ⟨0, ev_if et (fun z => ?_) fun _ => ev_d⟩
      rw [decide_eq_false hl] at z; cases z
  obtain ⟨own, hown⟩ := hown
  let s2 : Int := (s1 * 53 + own % 2147483549 * 15013 + 11) % 2147483587
  have hs2 : 0 ≤ s2 ∧ s2 < 2147483587 := ⟨Int.emod_nonneg _ (by omega), Int.emod_lt_of_pos _ (by omega)⟩
  have hfst : ∃ a : Int, 0 ≤ a ∧ Ev1 (cIf (cOrT (cBl (cCmp .Lt (cV 4) (cD (.int 0)))) (cBl (cCmp .GtE (cV 4) (cOp2 (liftD powD) (cD (.int 10)) (cD (.int 15)))))) (cB absO (cCons (cV 4) cNil)) (cD (.int 0))) [some (.v (scrD ns)), some (.v (dI lap)), some (.v (dI s2)), o1, some (.v (dI own))] st (dI a) := by
    have ep : Ev1 (cOp2 (liftD powD) (cD (.int 10)) (cD (.int 15))) [some (.v (scrD ns)), some (.v (dI lap)), some (.v (dI s2)), o1, some (.v (dI own))] st (.dat (.int (10 ^ 15))) := rfl
    have et := t_or (t_cmp (ρ := [some (.v (scrD ns)), some (.v (dI lap)), some (.v (dI s2)), o1, some (.v (dI own))]) (st := st) (f := cV 4) (g := cD (.int 0)) (op := .Lt) (ev_v (i := 4) (d := dI own)) ev_d (cmp_lt _ _)) (t_cmp (f := cV 4) (g := cOp2 (liftD powD) (cD (.int 10)) (cD (.int 15))) (op := .GtE) (ev_v (i := 4) (d := dI own)) ep (cmp_ge _ _))
    by_cases hb : (decide (own < 0) || decide ((10 : Int) ^ 15 ≤ own)) = true
    · refine ⟨if own < 0 then -own else own, by split <;> omega, ev_if et (fun _ => ev_abs (ev_v (i := 4) (d := dI own))) fun z => ?_⟩
      rw [z] at hb; cases hb
    · refine ⟨0, by omega, ev_if et (fun z => absurd z hb) fun _ => ev_d⟩
  obtain ⟨a, ha, hfst⟩ := hfst
  refine ⟨.lst [.int a, .int s2, .int 0], ⟨a, s2, 0, rfl, ha, hs2.1, hs2.2, by omega⟩, ?_⟩
  have body : wbWell (startE 5 [.v (scrD ns), .v (dI lap)]) st = .ok (.rt (.ref st.length)) (st ++ [.lst [.int a, .int s2, .int 0]]) := by
    have start : startE 5 [.v (scrD ns), .v (dI lap)] = [some (.v (scrD ns)), some (.v (dI lap)), none, none, none] := rfl
    rw [start]
    unfold wbWell
    rw [st_asg (d := dI (704969 + 6121 * lap)) (ev_add ev_d (ev_mul ev_d (ev_v (d := dI lap)) (.inl (by omega))))]
    have esrc : iAny (cSl (cV 0) oN (oS (cD (.int 16)))) [some (.v (scrD ns)), some (.v (dI lap)), some (.v (dI (704969 + 6121 * lap))), none, none] st = .ok (.items (((cutL ns none (some 16)).map PyData.int).map D.dat)) st := by
      show (Out.ok (mkLst (cutL (ns.map dI) none (some 16))) st : Out D).bind srcOf = _
      rw [cutL_map, mkLst_ints]; rfl
    have efor : sFor (iAny (cSl (cV 0) oN (oS (cD (.int 16))))) (gN 3) wTurn [some (.v (scrD ns)), some (.v (dI lap)), some (.v (dI (704969 + 6121 * lap))), none, none] st = .ok (.nx [some (.v (scrD ns)), some (.v (dI lap)), some (.v (dI s1)), o1, none]) st := by
      unfold sFor
      rw [esrc]
      exact e1
    have step : ∀ k : Cs, sSeq (sFor (iAny (cSl (cV 0) oN (oS (cD (.int 16))))) (gN 3) wTurn) k [some (.v (scrD ns)), some (.v (dI lap)), some (.v (dI (704969 + 6121 * lap))), none, none] st = k [some (.v (scrD ns)), some (.v (dI lap)), some (.v (dI s1)), o1, none] st := fun k => by
      unfold sSeq
      rw [efor]; rfl
    refine (step _).trans ?_
    rw [st_asg hown]
    refine (st_asg (d := dI s2) (ev_mod (ev_int (ev_add (ev_add (ev_mul (ev_v (d := dI s1)) ev_d (.inr (by omega))) (ev_mul (ev_mod (ev_int (ev_v (d := dI own))) ev_d (by omega)) ev_d (.inr (by omega)))) ev_d)) ev_d (by omega))).trans ?_
    have el : cLstM (cCons (cIf (cOrT (cBl (cCmp .Lt (cV 4) (cD (.int 0)))) (cBl (cCmp .GtE (cV 4) (cOp2 (liftD powD) (cD (.int 10)) (cD (.int 15)))))) (cB absO (cCons (cV 4) cNil)) (cD (.int 0))) (cCons (cV 2) (cCons (cD (.int 0)) cNil))) [some (.v (scrD ns)), some (.v (dI lap)), some (.v (dI s2)), o1, some (.v (dI own))] st = .ok (.ref st.length) (st ++ [.lst [.int a, .int s2, .int 0]]) := by
      unfold cLstM
      rw [el_cons hfst (el_cons (ev_v (i := 2) (d := dI s2)) (el_cons (ev_d (d := .int 0)) el_nil))]
      rfl
    show sRet _ [some (.v (scrD ns)), some (.v (dI lap)), some (.v (dI s2)), o1, some (.v (dI own))] st = _
    unfold sRet
    rw [el]; rfl
  show fnWith retK 5 wbWell _ st = _
  unfold fnWith
  rw [body]
  show (if st.length < st.length then _ else match (st ++ [Cell.lst [.int a, .int s2, .int 0]])[st.length]? with | some c => Out.ok (D.ref st.length) ((st ++ [Cell.lst [.int a, .int s2, .int 0]]).take st.length ++ [c]) | _ => .bad) = _
  rw [if_neg (Nat.lt_irrefl _), List.getElem?_append_right (Nat.le_refl _), Nat.sub_self]
  show Out.ok (D.ref st.length) ((st ++ [Cell.lst [.int a, .int s2, .int 0]]).take st.length ++ [_]) = _
  rw [List.take_left']
  rfl
def wWell : List DC → Mo D := frm wWell0
theorem low_ints : ∀ ns : List Int, lows 0 (ns.map dI) = true
  | [] => rfl
  | i :: r => by rw [List.map_cons, lows, low_ints r]; rfl
theorem wWell_ok (ns : List Int) (lap : Nat) {st : List Cell} (hh : allH st) : ∃ c, isWell c ∧ wWell [.v (scrD ns), .v (dI lap)] st = .ok (.ref st.length) (st ++ [c]) := by
  obtain ⟨c, w, e⟩ := wWell0_ok ns lap []
  refine ⟨c, w, frm_new ?_ (okFr_of (fun k hk => by simp at hk) hh) e⟩
  show (match (some [] : Option (List Nat)) with | none => none | some ks => if low 0 (.lst (ns.map dI)) = true then some ks else none) = _
  rw [low, low_ints]; rfl
end Zp

set_option Elab.async false
set_option linter.all false
set_option autoImplicit false
set_option maxRecDepth 100000
set_option maxHeartbeats 4000000
namespace Zp
open PySem PySem.Spec PyProof.Rows L2
/-! ### a law that asks its wells, lap by lap -/
def allW (st : List Cell) : Prop := ∀ c ∈ st, isWell c
theorem allW.set {st : List Cell} {n : Nat} {c : Cell} (h : allW st) (w : isWell c) : allW (st.set n c) := fun x hx => by
  rcases List.mem_or_eq_of_mem_set hx with z | z
  · exact h x z
  · rw [z]; exact w
theorem allW.hid {st : List Cell} (h : allW st) : allH st := fun c hc => (h c hc).hid
theorem allW.at {st : List Cell} {n : Nat} (h : allW st) (hn : n < st.length) : ∃ c, st[n]? = some c ∧ isWell c := ⟨st[n], List.getElem?_eq_getElem hn, h _ (List.getElem_mem hn)⟩
def wbLaw (right : List DC → Mo D) (reps : Int) : Cs := (sSeq (sAsg 1 (cComp (iRg1 (cCons (cB max2O (cCons (cD (.int 1)) (cCons (cB min2O (cCons (cB lenO (cCons (cV 0) cNil)) (cCons (cD (.int 3)) cNil))) cNil))) cNil)) [2] (step1 (gN 2) cYes (cCall wWell (aCons (cVl (cV 0)) (aCons (cVl (cV 2)) aNil)))) finL)) (sRet (cB allO (cCons (cComp (iRg1 (cCons (cD (.int reps)) cNil)) [2] (step1 (gN 2) cYes (cCall right (aCons (cVl (cSub (cV 1) (cOp2 (liftD modD) (cB intO (cCons (cV 2) cNil)) (cB lenO (cCons (cV 1) cNil))))) aNil))) finL) cNil))))
theorem compL_cons {step : D → Mo (List D)} {x : D} {xs ys zs : List D} {st st1 st2 : List Cell} (h : step x st = .ok ys st1) (h2 : compL step xs st1 = .ok zs st2) : compL step (x :: xs) st = .ok (ys ++ zs) st2 := by
  show (step x st).bind _ = _
  rw [h]
  show (compL step xs st1).bind _ = _
  rw [h2]; rfl
/-- what is asked of the part behind the wells -/
def Right (right : List DC → Mo D) : Prop := ∀ (st : List Cell) (k : Nat), 1 ≤ st.length → st.length ≤ 3 → allW st → k < st.length → ∃ st', right [.v (.ref k)] st = .ok (.dat (.bool true)) st' ∧ st'.length = st.length ∧ allW st'
theorem wells_made (ns : List Int) (a : Option DC) : ∀ (is : List Nat) (st : List Cell), allW st → ∃ cs, cs.length = is.length ∧ allW cs ∧
    compL (step1 (gN 2) cYes (cCall wWell (aCons (cVl (cV 0)) (aCons (cVl (cV 2)) aNil))) [some (.v (scrD ns)), a, none]) (is.map fun (i : Nat) => D.dat (.int (i : Int))) st = .ok ((List.range' st.length is.length).map D.ref) (st ++ cs)
  | [], st, _ => ⟨[], rfl, fun _ h => by simp at h, by rw [List.append_nil]; rfl⟩
  | i :: is, st, hst => by
    obtain ⟨c, wc, e⟩ := wWell_ok ns i hst.hid
    obtain ⟨cs, hl, hw, e2⟩ := wells_made ns a is (st ++ [c]) fun x hx => by
      rcases List.mem_append.mp hx with z | z
      · exact hst x z
      · rw [List.mem_singleton.mp z]; exact wc
    refine ⟨c :: cs, by rw [List.length_cons, List.length_cons, hl], fun x hx => ?_, ?_⟩
    · rcases List.mem_cons.mp hx with z | z
      · rw [z]; exact wc
      · exact hw x z
    · have e3 : step1 (gN 2) cYes (cCall wWell (aCons (cVl (cV 0)) (aCons (cVl (cV 2)) aNil))) [some (.v (scrD ns)), a, none] (D.dat (.int (i : Int))) st = .ok [.ref st.length] (st ++ [c]) := by
        show ((nx (wWell [.v (scrD ns), .v (dI i)] st)).bind _) = _
        rw [e]; rfl
      rw [List.map_cons, compL_cons e3 e2, List.length_append, List.length_singleton, List.length_cons, List.range'_succ, List.append_assoc]
      rfl
theorem rights_asked {right : List DC → Mo D} (hr : Right right) (a : Option DC) (n : Nat) (h1 : 1 ≤ n) (h3 : n ≤ 3) : ∀ (is : List Nat) (st : List Cell), st.length = n → allW st → ∃ st', st'.length = n ∧ allW st' ∧
    compL (step1 (gN 2) cYes (cCall right (aCons (cVl (cSub (cV 1) (cOp2 (liftD modD) (cB intO (cCons (cV 2) cNil)) (cB lenO (cCons (cV 1) cNil))))) aNil)) [a, some (.v (.lst ((List.range' 0 n).map D.ref))), none]) (is.map fun (i : Nat) => D.dat (.int (i : Int))) st = .ok (List.replicate is.length (.dat (.bool true))) st'
  | [], st, hl, hw => ⟨st, hl, hw, rfl⟩
  | i :: is, st, hl, hw => by
    have hk : i % n < st.length := by rw [hl]; exact Nat.mod_lt _ (by omega)
    obtain ⟨st1, e, hl1, hw1⟩ := hr st (i % n) (by omega) (by omega) hw hk
    obtain ⟨st2, hl2, hw2, e2⟩ := rights_asked hr a n h1 h3 is st1 (by omega) hw1
    refine ⟨st2, hl2, hw2, ?_⟩
    have ei : Ev1 (cSub (cV 1) (cOp2 (liftD modD) (cB intO (cCons (cV 2) cNil)) (cB lenO (cCons (cV 1) cNil)))) [a, some (.v (.lst ((List.range' 0 n).map D.ref))), some (.v (dI i))] st (.ref (i % n)) := by
      refine ev_ixL (ev_v (i := 1) (d := .lst ((List.range' 0 n).map D.ref))) (ev_mod (ev_int (ev_v (i := 2) (d := dI i))) (ev_lenL (ev_v (i := 1) (d := .lst ((List.range' 0 n).map D.ref)))) ?_) ?_
      · rw [List.length_map, List.length_range']; omega
      · rw [atI_map, List.length_map, List.length_range']
        have e0 : ((i : Int) % (n : Int)) = ((i % n : Nat) : Int) := by omega
        rw [e0]
        have e1 : atI (List.range' 0 n) ((i % n : Nat) : Int) = some (i % n) := by
          unfold atI ixN
          rw [List.length_range', if_pos (by omega), if_pos (by omega)]
          show (List.range' 0 n)[(((i % n : Nat) : Int)).toNat]? = _
          rw [Int.toNat_natCast, List.getElem?_range' (by omega)]
          simp
        rw [e1]; rfl
    have e3 : step1 (gN 2) cYes (cCall right (aCons (cVl (cSub (cV 1) (cOp2 (liftD modD) (cB intO (cCons (cV 2) cNil)) (cB lenO (cCons (cV 1) cNil))))) aNil)) [a, some (.v (.lst ((List.range' 0 n).map D.ref))), none] (D.dat (.int (i : Int))) st = .ok [.dat (.bool true)] st1 := by
      show ((nx ((aCons (cVl (cSub (cV 1) (cOp2 (liftD modD) (cB intO (cCons (cV 2) cNil)) (cB lenO (cCons (cV 1) cNil))))) aNil [a, some (.v (.lst ((List.range' 0 n).map D.ref))), some (.v (dI i))] st).bind right)).bind _) = _
      have ea : aCons (cVl (cSub (cV 1) (cOp2 (liftD modD) (cB intO (cCons (cV 2) cNil)) (cB lenO (cCons (cV 1) cNil))))) aNil [a, some (.v (.lst ((List.range' 0 n).map D.ref))), some (.v (dI i))] st = .ok [.v (.ref (i % n))] st := by
        unfold aCons cVl
        rw [show cSub _ _ _ st = .ok (.ref (i % n)) st from ei]; rfl
      rw [ea]
      show ((nx (right [.v (.ref (i % n))] st)).bind _) = _
      rw [e]; rfl
    rw [List.map_cons, compL_cons e3 e2]; rfl
theorem range_eq (n : Nat) : rangeL 0 n = (List.range n).map fun (i : Nat) => D.dat (.int (i : Int)) := by
  unfold rangeL
  exact List.map_congr_left fun i _ => by rw [Int.zero_add]
theorem bools_true : ∀ n : Nat, boolsOf (List.replicate n (.bool true)) = some (List.replicate n true)
  | 0 => rfl
  | n + 1 => by rw [List.replicate_succ, boolsOf, bools_true n]; rfl
theorem mkLst_refs : ∀ n m : Nat, 1 ≤ m → mkLst ((List.range' n m).map D.ref) = .lst ((List.range' n m).map D.ref)
  | _, 0, h => absurd h (by omega)
  | n, m + 1, _ => by unfold mkLst; rw [List.range'_succ, List.map_cons]; rfl
theorem datAll_rep (x : PyData) : ∀ n : Nat, datAll (List.replicate n (.dat x)) = some (List.replicate n x)
  | 0 => rfl
  | n + 1 => by rw [List.replicate_succ, datAll, datAll_rep x n]; rfl
theorem st_asg1 {ρ : Ev} {st st1 : List Cell} {c : Ev → Mo D} {i : Nat} {d : D} {k : Cs} (h : c ρ st = .ok d st1) : sSeq (sAsg i c) k ρ st = k (ρ.set i (some (.v d))) st1 := by
  unfold sSeq sAsg
  rw [h]; rfl
theorem st_ret1 {ρ : Ev} {st st1 : List Cell} {c : Ev → Mo D} {d : D} (h : c ρ st = .ok d st1) : sRet c ρ st = .ok (.rt d) st1 := by
  unfold sRet
  rw [h]; rfl
theorem cnd {n : Nat} (hn : n ≤ 1000) : (-(2 ^ 62) ≤ (n : Int) ∧ (n : Int) < 2 ^ 62) := ⟨by omega, by omega⟩
theorem bind_ok {α β : Type} {a : α} {st : List Cell} {k : α → Mo β} : (Out.ok a st).bind k = k a st := rfl
/-- a range's bound -/
def rgB (j : Int) : Mo Src := fun st1 => if -(2 ^ 62) ≤ j ∧ j < 2 ^ 62 then .ok (.items (rangeL 0 j.toNat)) st1 else .bad
theorem rgB_ok {n : Nat} (st : List Cell) (hn : n ≤ 1000) : rgB (n : Int) st = .ok (.items (rangeL 0 n)) st := by
  unfold rgB
  rw [if_pos (cnd hn), Int.toNat_natCast]
theorem irg_eq (f : Ev → Mo (List D)) (ρ : Ev) (st : List Cell) : iRg1 f ρ st = (f ρ st).bind fun ds st1 => match ds with
  | [.dat (.int j)] => rgB j st1
  | _ => .bad := rfl
theorem el_cons1 {ρ : Ev} {st st1 st2 : List Cell} {f : Ev → Mo D} {r : Ev → Mo (List D)} {d : D} {ds : List D} (h : f ρ st = .ok d st1) (hr : r ρ st1 = .ok ds st2) : cCons f r ρ st = .ok (d :: ds) st2 := by
  unfold cCons
  rw [h]
  show (r ρ st1).bind _ = _
  rw [hr]; rfl
theorem cB_eq {op : List D → Mo D} {ρ : Ev} {st st1 : List Cell} {f : Ev → Mo (List D)} {ds : List D} (h : f ρ st = .ok ds st1) : cB op f ρ st = op ds st1 := by
  unfold cB
  rw [h]; rfl
theorem irg1_ok {ρ : Ev} {st : List Cell} {f : Ev → Mo D} {n : Nat} (h : Ev1 f ρ st (dI n)) (hn : n ≤ 1000) : iRg1 (cCons f cNil) ρ st = .ok (.items (rangeL 0 n)) st := by
  have h : Ev1 f ρ st (D.dat (.int n)) := h
  rw [irg_eq, el_cons h el_nil, bind_ok]
  dsimp only
  exact rgB_ok st hn
theorem wLaw0_ok {right : List DC → Mo D} (hr : Right right) (ns : List Int) (reps : Nat) (hreps : reps ≤ 1000) : fnOf 3 (wbLaw right (reps : Int)) [.v (scrD ns)] [] = .ok (.dat (.bool true)) [] := by
  have hmm : ∃ n : Nat, 1 ≤ n ∧ n ≤ 3 ∧ Ev1 (cB max2O (cCons (cD (.int 1)) (cCons (cB min2O (cCons (cB lenO (cCons (cV 0) cNil)) (cCons (cD (.int 3)) cNil))) cNil))) [some (.v (scrD ns)), none, none] [] (dI n) := by
    have e : Ev1 (cB max2O (cCons (cD (.int 1)) (cCons (cB min2O (cCons (cB lenO (cCons (cV 0) cNil)) (cCons (cD (.int 3)) cNil))) cNil))) [some (.v (scrD ns)), none, none] [] (dI (if (if (3 : Int) < ((ns.map dI).length : Int) then 3 else ((ns.map dI).length : Int)) > 1 then (if (3 : Int) < ((ns.map dI).length : Int) then 3 else ((ns.map dI).length : Int)) else 1)) := rfl
    rw [List.length_map] at e
    by_cases h3 : (3 : Int) < (ns.length : Int)
    · rw [if_pos h3, if_pos (by omega)] at e
      exact ⟨3, by omega, by omega, e⟩
    · rw [if_neg h3] at e
      by_cases h1 : (ns.length : Int) > 1
      · rw [if_pos h1] at e
        exact ⟨ns.length, by omega, by omega, e⟩
      · rw [if_neg h1] at e
        exact ⟨1, by omega, by omega, e⟩
  obtain ⟨n, hn1, hn3, em⟩ := hmm
  obtain ⟨cs, hcl, hcw, ew⟩ := wells_made ns none (List.range n) [] fun c hc => by simp at hc
  rw [List.length_range, List.length_nil, List.nil_append] at ew
  rw [List.length_range] at hcl
  obtain ⟨st', hl', hw', er⟩ := rights_asked hr (some (.v (scrD ns))) n hn1 hn3 (List.range reps) cs hcl hcw
  rw [List.length_range] at er
  have body : wbLaw right (reps : Int) (startE 3 [.v (scrD ns)]) [] = .ok (.rt (.dat (.bool true))) st' := by
    have start : startE 3 [.v (scrD ns)] = [some (.v (scrD ns)), none, none] := rfl
    rw [start]
    unfold wbLaw
    have e1 : cComp (iRg1 (cCons (cB max2O (cCons (cD (.int 1)) (cCons (cB min2O (cCons (cB lenO (cCons (cV 0) cNil)) (cCons (cD (.int 3)) cNil))) cNil))) cNil)) [2] (step1 (gN 2) cYes (cCall wWell (aCons (cVl (cV 0)) (aCons (cVl (cV 2)) aNil)))) finL [some (.v (scrD ns)), none, none] [] = .ok (.lst ((List.range' 0 n).map D.ref)) cs := by
      have ei := irg1_ok em (by omega)
      unfold cComp
      rw [ei]
      show ((nx (compL (step1 (gN 2) cYes (cCall wWell (aCons (cVl (cV 0)) (aCons (cVl (cV 2)) aNil))) [some (.v (scrD ns)), none, none]) (rangeL 0 n) [])).bind _) = _
      rw [range_eq, ew]
      show (if ((List.range' 0 n).map D.ref).length ≤ lim then Out.ok (mkLst ((List.range' 0 n).map D.ref)) cs else .bad) = _
      rw [if_pos (by rw [List.length_map, List.length_range']; unfold lim; omega), mkLst_refs 0 n hn1]
    refine (st_asg1 e1).trans ?_
    have e2 : cB allO (cCons (cComp (iRg1 (cCons (cD (.int reps)) cNil)) [2] (step1 (gN 2) cYes (cCall right (aCons (cVl (cSub (cV 1) (cOp2 (liftD modD) (cB intO (cCons (cV 2) cNil)) (cB lenO (cCons (cV 1) cNil))))) aNil))) finL) cNil) [some (.v (scrD ns)), some (.v (.lst ((List.range' 0 n).map D.ref))), none] cs = .ok (.dat (.bool true)) st' := by
      have ei := irg1_ok (ρ := [some (.v (scrD ns)), some (.v (.lst ((List.range' 0 n).map D.ref))), none]) (st := cs) (f := cD (.int reps)) (n := reps) ev_d hreps
      have ec : cComp (iRg1 (cCons (cD (.int reps)) cNil)) [2] (step1 (gN 2) cYes (cCall right (aCons (cVl (cSub (cV 1) (cOp2 (liftD modD) (cB intO (cCons (cV 2) cNil)) (cB lenO (cCons (cV 1) cNil))))) aNil))) finL [some (.v (scrD ns)), some (.v (.lst ((List.range' 0 n).map D.ref))), none] cs = .ok (.dat (.list (List.replicate reps (.bool true)))) st' := by
        unfold cComp
        rw [ei]
        show ((nx (compL (step1 (gN 2) cYes (cCall right (aCons (cVl (cSub (cV 1) (cOp2 (liftD modD) (cB intO (cCons (cV 2) cNil)) (cB lenO (cCons (cV 1) cNil))))) aNil)) [some (.v (scrD ns)), some (.v (.lst ((List.range' 0 n).map D.ref))), none]) (rangeL 0 reps) cs)).bind _) = _
        rw [range_eq, er]
        show (if (List.replicate reps (D.dat (.bool true))).length ≤ lim then Out.ok (mkLst (List.replicate reps (D.dat (.bool true)))) st' else .bad) = _
        rw [if_pos (by rw [List.length_replicate]; unfold lim; omega)]
        unfold mkLst
        rw [datAll_rep]
      refine (cB_eq (el_cons1 ec (el_nil (st := st')))).trans ?_
      show (match (boolsOf (List.replicate reps (.bool true))).map fun bs => PyData.bool (bs.all id) with | some z => Out.ok (D.dat z) st' | none => .bad) = _
      rw [bools_true]
      show Out.ok (D.dat (.bool ((List.replicate reps true).all id))) st' = _
      rw [show (List.replicate reps true).all id = true from by simp [List.all_replicate]]
    exact st_ret1 e2
  have := fn_dat body
  rw [this]
  rfl
/-- asked of one well alone -/
def Right1 (right : List DC → Mo D) : Prop := ∀ c, isWell c → ∃ c', right [.v (.ref 0)] [c] = .ok (.dat (.bool true)) [c'] ∧ isWell c'
theorem Right1.all {right : List DC → Mo D} (h : Right1 right) : Right (frm right) := fun st k h1 h3 hw hk => by
  obtain ⟨c, hc, wc⟩ := hw.at hk
  obtain ⟨c', e, w'⟩ := h c wc
  refine ⟨st.set k c', frm_one (k := k) rfl hc (okFr_of (fun j hj => by rw [List.mem_singleton.mp hj]; exact hk) hw.hid) ?_ rfl, List.length_set, hw.set w'⟩
  show right [.v (.ref ([k].idxOf k))] [c] = _
  rw [List.idxOf_cons_self]
  exact e
theorem wLaw_ok {right : List DC → Mo D} (hr : Right1 right) (ns : List Int) (reps : Nat) (hreps : reps ≤ 1000) : frm (fnOf 3 (wbLaw (frm right) (reps : Int))) [.v (scrD ns)] [] = .ok (.dat (.bool true)) [] := by
  refine frm_pure ?_ rfl (wLaw0_ok hr.all ns reps hreps) rfl
  show (match (some [] : Option (List Nat)) with | none => none | some ks => if low 0 (.lst (ns.map dI)) = true then some ks else none) = _
  rw [low, low_ints]; rfl
end Zp

set_option Elab.async false
set_option linter.all false
set_option autoImplicit false
set_option maxRecDepth 100000
set_option maxHeartbeats 4000000
namespace Zp
open PySem PySem.Spec PyProof.Rows L2
def wbOf : Cs := (sRet (cSub (cV 1) (cCall wDraw (aCons (cVl (cV 0)) (aCons (cVl (cB lenO (cCons (cV 1) cNil))) aNil)))))
def wOf0 : List DC → Mo D := fnOf 2 wbOf
def wOf : List DC → Mo D := frm wOf0
theorem call2 {g : List DC → Mo D} {f1 f2 : Ev → Mo D} {ρ : Ev} {st st1 st2 : List Cell} {a b : D} (h1 : f1 ρ st = .ok a st1) (h2 : f2 ρ st1 = .ok b st2) : cCall g (aCons (cVl f1) (aCons (cVl f2) aNil)) ρ st = g [.v a, .v b] st2 := by
  unfold cCall aCons cVl
  rw [h1]
  show ((((f2 ρ st1).bind _).bind _).bind _).bind _ = _
  rw [h2]; rfl
theorem wOf0_ok {st : List Cell} {n : Nat} {c : Cell} (h : st[n]? = some c) (w : isWell c) (hh : allH st) (l : List PyData) (hl : 1 ≤ l.length) (hl2 : l.length < 1000) :
    ∃ x c', x ∈ l ∧ isWell c' ∧ wOf0 [.v (.ref n), .v (.dat (.tuple l))] st = .ok (.dat x) (st.set n c') := by
  obtain ⟨i, c', h0, h1, wc, e⟩ := wDraw_ok h w hh (lim := (l.length : Int)) (by omega) (by omega)
  have hi : i.toNat < l.length := by omega
  refine ⟨l[i.toNat], c', List.getElem_mem hi, wc, ?_⟩
  have body : wbOf (startE 2 [.v (.ref n), .v (.dat (.tuple l))]) st = .ok (.rt (.dat l[i.toNat])) (st.set n c') := by
    have start : startE 2 [.v (.ref n), .v (.dat (.tuple l))] = [some (.v (.ref n)), some (.v (.dat (.tuple l)))] := rfl
    rw [start]
    unfold wbOf
    have e1 : cCall wDraw (aCons (cVl (cV 0)) (aCons (cVl (cB lenO (cCons (cV 1) cNil))) aNil)) [some (.v (.ref n)), some (.v (.dat (.tuple l)))] st = .ok (.dat (.int i)) (st.set n c') := by
      rw [call2 (a := .ref n) (b := .dat (.int (l.length : Int))) (st1 := st) (st2 := st) rfl rfl, e]
    refine st_ret1 ?_
    unfold cSub cOp2
    show ((cCall wDraw _ _ st).bind _) = _
    rw [e1]
    show (match atI l i with | some d => Out.ok (D.dat d) (st.set n c') | none => .bad) = _
    have ea : atI l i = some l[i.toNat] := by
      unfold atI ixN
      rw [if_pos (by omega), if_pos (by omega)]
      show l[i.toNat]? = _
      rw [List.getElem?_eq_getElem hi]
    rw [ea]
  have := fn_dat body
  rw [set_take] at this
  exact this
theorem low_dat {x : PyData} : low 0 (.dat x) = true := by unfold low; rfl
theorem wOf_ok {st : List Cell} {n : Nat} {c : Cell} (h : st[n]? = some c) (w : isWell c) (hh : allH st) (l : List PyData) (hl : 1 ≤ l.length) (hl2 : l.length < 1000) :
    ∃ x c', x ∈ l ∧ isWell c' ∧ wOf [.v (.ref n), .v (.dat (.tuple l))] st = .ok (.dat x) (st.set n c') := by
  obtain ⟨x, c', hx, w', e⟩ := wOf0_ok (st := [c]) (n := 0) rfl w (fun z hz => by rw [List.mem_singleton.mp hz]; exact w.hid) l hl hl2
  refine ⟨x, c', hx, w', frm_one (k := n) rfl h (okFr_of (fun k hk => ?_) hh) ?_ low_dat⟩
  · rw [List.mem_singleton.mp hk]; exact (List.getElem?_eq_some_iff.mp h).1
  · show wOf0 [.v (.ref ([n].idxOf n)), .v (.dat (.tuple l))] [c] = _
    rw [List.idxOf_cons_self]
    exact e
/-- a def's end, from the body's -/
def finO (n : Nat) (o : Out Fl) : Out D := match o with
  | .ok (.rt d) st' => retD n d st'
  | _ => .bad
theorem finO_fn {N : Nat} {b : Cs} {ds : List DC} {st st1 : List Cell} {o : Out Fl} {d : D} (h : b (startE N ds) st = o) (e : finO st.length o = .ok d st1) : fnOf N b ds st = .ok d st1 := by
  show fnWith retD N b ds st = _
  unfold fnWith
  rw [h]
  cases o with
  | ok f s => cases f with
    | rt x => exact e
    | _ => exact absurd e (by simp [finO])
  | _ => exact absurd e (by simp [finO])
theorem st_par {i j : Nat} {f : Ev → Mo (List D)} {k : Cs} {ρ : Ev} {st st1 : List Cell} {a b : D} (h : f ρ st = .ok [a, b] st1) : sSeq (sPar i j f) k ρ st = k ((ρ.set i (some (.v a))).set j (some (.v b))) st1 := by
  unfold sSeq sPar
  rw [h]; rfl
theorem op_addI {f g : Ev → Mo D} {ρ : Ev} {st st1 st2 : List Cell} {i j : Int} (h1 : f ρ st = .ok (.dat (.int i)) st1) (h2 : g ρ st1 = .ok (.dat (.int j)) st2) : cOp2 (liftD addD) f g ρ st = .ok (.dat (.int (i + j))) st2 := by
  unfold cOp2
  rw [h1]
  show (g ρ st1).bind _ = _
  rw [h2]; rfl
end Zp

set_option Elab.async false
set_option linter.all false
set_option autoImplicit false
set_option maxRecDepth 100000
set_option maxHeartbeats 4000000
namespace K57
open PySem PySem.Spec PyProof.Rows L2 Zp
def ev (m l : Int) : Ev := [some (.v (.ref 0)), some (.v (.dat (.int m))), some (.v (.dat (.int l))), none, none, none, none, none, none, none, none]
theorem e1_2 (x : List PyData) : finO 1 (r1_law_right (ev 1 2) [.lst x]) = .ok (.dat (.bool true)) [.lst x] := by kernel_rfl
theorem e1_3 (x : List PyData) : finO 1 (r1_law_right (ev 1 3) [.lst x]) = .ok (.dat (.bool true)) [.lst x] := by kernel_rfl
theorem e1_4 (x : List PyData) : finO 1 (r1_law_right (ev 1 4) [.lst x]) = .ok (.dat (.bool true)) [.lst x] := by kernel_rfl
theorem e1_5 (x : List PyData) : finO 1 (r1_law_right (ev 1 5) [.lst x]) = .ok (.dat (.bool true)) [.lst x] := by kernel_rfl
theorem e1_6 (x : List PyData) : finO 1 (r1_law_right (ev 1 6) [.lst x]) = .ok (.dat (.bool true)) [.lst x] := by kernel_rfl
theorem e1_7 (x : List PyData) : finO 1 (r1_law_right (ev 1 7) [.lst x]) = .ok (.dat (.bool true)) [.lst x] := by kernel_rfl
theorem e1_8 (x : List PyData) : finO 1 (r1_law_right (ev 1 8) [.lst x]) = .ok (.dat (.bool true)) [.lst x] := by kernel_rfl
theorem e1_9 (x : List PyData) : finO 1 (r1_law_right (ev 1 9) [.lst x]) = .ok (.dat (.bool true)) [.lst x] := by kernel_rfl
theorem e2_2 (x : List PyData) : finO 1 (r1_law_right (ev 2 2) [.lst x]) = .ok (.dat (.bool true)) [.lst x] := by kernel_rfl
theorem e2_3 (x : List PyData) : finO 1 (r1_law_right (ev 2 3) [.lst x]) = .ok (.dat (.bool true)) [.lst x] := by kernel_rfl
theorem e2_4 (x : List PyData) : finO 1 (r1_law_right (ev 2 4) [.lst x]) = .ok (.dat (.bool true)) [.lst x] := by kernel_rfl
theorem e2_5 (x : List PyData) : finO 1 (r1_law_right (ev 2 5) [.lst x]) = .ok (.dat (.bool true)) [.lst x] := by kernel_rfl
theorem e2_6 (x : List PyData) : finO 1 (r1_law_right (ev 2 6) [.lst x]) = .ok (.dat (.bool true)) [.lst x] := by kernel_rfl
theorem e2_7 (x : List PyData) : finO 1 (r1_law_right (ev 2 7) [.lst x]) = .ok (.dat (.bool true)) [.lst x] := by kernel_rfl
theorem e2_8 (x : List PyData) : finO 1 (r1_law_right (ev 2 8) [.lst x]) = .ok (.dat (.bool true)) [.lst x] := by kernel_rfl
theorem e2_9 (x : List PyData) : finO 1 (r1_law_right (ev 2 9) [.lst x]) = .ok (.dat (.bool true)) [.lst x] := by kernel_rfl
theorem e3_2 (x : List PyData) : finO 1 (r1_law_right (ev 3 2) [.lst x]) = .ok (.dat (.bool true)) [.lst x] := by kernel_rfl
theorem e3_3 (x : List PyData) : finO 1 (r1_law_right (ev 3 3) [.lst x]) = .ok (.dat (.bool true)) [.lst x] := by kernel_rfl
theorem e3_4 (x : List PyData) : finO 1 (r1_law_right (ev 3 4) [.lst x]) = .ok (.dat (.bool true)) [.lst x] := by kernel_rfl
theorem e3_5 (x : List PyData) : finO 1 (r1_law_right (ev 3 5) [.lst x]) = .ok (.dat (.bool true)) [.lst x] := by kernel_rfl
theorem e3_6 (x : List PyData) : finO 1 (r1_law_right (ev 3 6) [.lst x]) = .ok (.dat (.bool true)) [.lst x] := by kernel_rfl
theorem e3_7 (x : List PyData) : finO 1 (r1_law_right (ev 3 7) [.lst x]) = .ok (.dat (.bool true)) [.lst x] := by kernel_rfl
theorem e3_8 (x : List PyData) : finO 1 (r1_law_right (ev 3 8) [.lst x]) = .ok (.dat (.bool true)) [.lst x] := by kernel_rfl
theorem e3_9 (x : List PyData) : finO 1 (r1_law_right (ev 3 9) [.lst x]) = .ok (.dat (.bool true)) [.lst x] := by kernel_rfl
theorem e4_2 (x : List PyData) : finO 1 (r1_law_right (ev 4 2) [.lst x]) = .ok (.dat (.bool true)) [.lst x] := by kernel_rfl
theorem e4_3 (x : List PyData) : finO 1 (r1_law_right (ev 4 3) [.lst x]) = .ok (.dat (.bool true)) [.lst x] := by kernel_rfl
theorem e4_4 (x : List PyData) : finO 1 (r1_law_right (ev 4 4) [.lst x]) = .ok (.dat (.bool true)) [.lst x] := by kernel_rfl
theorem e4_5 (x : List PyData) : finO 1 (r1_law_right (ev 4 5) [.lst x]) = .ok (.dat (.bool true)) [.lst x] := by kernel_rfl
theorem e4_6 (x : List PyData) : finO 1 (r1_law_right (ev 4 6) [.lst x]) = .ok (.dat (.bool true)) [.lst x] := by kernel_rfl
theorem e4_7 (x : List PyData) : finO 1 (r1_law_right (ev 4 7) [.lst x]) = .ok (.dat (.bool true)) [.lst x] := by kernel_rfl
theorem e4_8 (x : List PyData) : finO 1 (r1_law_right (ev 4 8) [.lst x]) = .ok (.dat (.bool true)) [.lst x] := by kernel_rfl
theorem e4_9 (x : List PyData) : finO 1 (r1_law_right (ev 4 9) [.lst x]) = .ok (.dat (.bool true)) [.lst x] := by kernel_rfl
theorem e5_2 (x : List PyData) : finO 1 (r1_law_right (ev 5 2) [.lst x]) = .ok (.dat (.bool true)) [.lst x] := by kernel_rfl
theorem e5_3 (x : List PyData) : finO 1 (r1_law_right (ev 5 3) [.lst x]) = .ok (.dat (.bool true)) [.lst x] := by kernel_rfl
theorem e5_4 (x : List PyData) : finO 1 (r1_law_right (ev 5 4) [.lst x]) = .ok (.dat (.bool true)) [.lst x] := by kernel_rfl
theorem e5_5 (x : List PyData) : finO 1 (r1_law_right (ev 5 5) [.lst x]) = .ok (.dat (.bool true)) [.lst x] := by kernel_rfl
theorem e5_6 (x : List PyData) : finO 1 (r1_law_right (ev 5 6) [.lst x]) = .ok (.dat (.bool true)) [.lst x] := by kernel_rfl
theorem e5_7 (x : List PyData) : finO 1 (r1_law_right (ev 5 7) [.lst x]) = .ok (.dat (.bool true)) [.lst x] := by kernel_rfl
theorem e5_8 (x : List PyData) : finO 1 (r1_law_right (ev 5 8) [.lst x]) = .ok (.dat (.bool true)) [.lst x] := by kernel_rfl
theorem e5_9 (x : List PyData) : finO 1 (r1_law_right (ev 5 9) [.lst x]) = .ok (.dat (.bool true)) [.lst x] := by kernel_rfl
theorem e6_2 (x : List PyData) : finO 1 (r1_law_right (ev 6 2) [.lst x]) = .ok (.dat (.bool true)) [.lst x] := by kernel_rfl
theorem e6_3 (x : List PyData) : finO 1 (r1_law_right (ev 6 3) [.lst x]) = .ok (.dat (.bool true)) [.lst x] := by kernel_rfl
theorem e6_4 (x : List PyData) : finO 1 (r1_law_right (ev 6 4) [.lst x]) = .ok (.dat (.bool true)) [.lst x] := by kernel_rfl
theorem e6_5 (x : List PyData) : finO 1 (r1_law_right (ev 6 5) [.lst x]) = .ok (.dat (.bool true)) [.lst x] := by kernel_rfl
theorem e6_6 (x : List PyData) : finO 1 (r1_law_right (ev 6 6) [.lst x]) = .ok (.dat (.bool true)) [.lst x] := by kernel_rfl
theorem e6_7 (x : List PyData) : finO 1 (r1_law_right (ev 6 7) [.lst x]) = .ok (.dat (.bool true)) [.lst x] := by kernel_rfl
theorem e6_8 (x : List PyData) : finO 1 (r1_law_right (ev 6 8) [.lst x]) = .ok (.dat (.bool true)) [.lst x] := by kernel_rfl
theorem e6_9 (x : List PyData) : finO 1 (r1_law_right (ev 6 9) [.lst x]) = .ok (.dat (.bool true)) [.lst x] := by kernel_rfl
theorem e7_2 (x : List PyData) : finO 1 (r1_law_right (ev 7 2) [.lst x]) = .ok (.dat (.bool true)) [.lst x] := by kernel_rfl
theorem e7_3 (x : List PyData) : finO 1 (r1_law_right (ev 7 3) [.lst x]) = .ok (.dat (.bool true)) [.lst x] := by kernel_rfl
theorem e7_4 (x : List PyData) : finO 1 (r1_law_right (ev 7 4) [.lst x]) = .ok (.dat (.bool true)) [.lst x] := by kernel_rfl
theorem e7_5 (x : List PyData) : finO 1 (r1_law_right (ev 7 5) [.lst x]) = .ok (.dat (.bool true)) [.lst x] := by kernel_rfl
theorem e7_6 (x : List PyData) : finO 1 (r1_law_right (ev 7 6) [.lst x]) = .ok (.dat (.bool true)) [.lst x] := by kernel_rfl
theorem e7_7 (x : List PyData) : finO 1 (r1_law_right (ev 7 7) [.lst x]) = .ok (.dat (.bool true)) [.lst x] := by kernel_rfl
theorem e7_8 (x : List PyData) : finO 1 (r1_law_right (ev 7 8) [.lst x]) = .ok (.dat (.bool true)) [.lst x] := by kernel_rfl
theorem e7_9 (x : List PyData) : finO 1 (r1_law_right (ev 7 9) [.lst x]) = .ok (.dat (.bool true)) [.lst x] := by kernel_rfl
theorem e8_2 (x : List PyData) : finO 1 (r1_law_right (ev 8 2) [.lst x]) = .ok (.dat (.bool true)) [.lst x] := by kernel_rfl
theorem e8_3 (x : List PyData) : finO 1 (r1_law_right (ev 8 3) [.lst x]) = .ok (.dat (.bool true)) [.lst x] := by kernel_rfl
theorem e8_4 (x : List PyData) : finO 1 (r1_law_right (ev 8 4) [.lst x]) = .ok (.dat (.bool true)) [.lst x] := by kernel_rfl
theorem e8_5 (x : List PyData) : finO 1 (r1_law_right (ev 8 5) [.lst x]) = .ok (.dat (.bool true)) [.lst x] := by kernel_rfl
theorem e8_6 (x : List PyData) : finO 1 (r1_law_right (ev 8 6) [.lst x]) = .ok (.dat (.bool true)) [.lst x] := by kernel_rfl
theorem e8_7 (x : List PyData) : finO 1 (r1_law_right (ev 8 7) [.lst x]) = .ok (.dat (.bool true)) [.lst x] := by kernel_rfl
theorem e8_8 (x : List PyData) : finO 1 (r1_law_right (ev 8 8) [.lst x]) = .ok (.dat (.bool true)) [.lst x] := by kernel_rfl
theorem e8_9 (x : List PyData) : finO 1 (r1_law_right (ev 8 9) [.lst x]) = .ok (.dat (.bool true)) [.lst x] := by kernel_rfl
theorem e9_2 (x : List PyData) : finO 1 (r1_law_right (ev 9 2) [.lst x]) = .ok (.dat (.bool true)) [.lst x] := by kernel_rfl
theorem e9_3 (x : List PyData) : finO 1 (r1_law_right (ev 9 3) [.lst x]) = .ok (.dat (.bool true)) [.lst x] := by kernel_rfl
theorem e9_4 (x : List PyData) : finO 1 (r1_law_right (ev 9 4) [.lst x]) = .ok (.dat (.bool true)) [.lst x] := by kernel_rfl
theorem e9_5 (x : List PyData) : finO 1 (r1_law_right (ev 9 5) [.lst x]) = .ok (.dat (.bool true)) [.lst x] := by kernel_rfl
theorem e9_6 (x : List PyData) : finO 1 (r1_law_right (ev 9 6) [.lst x]) = .ok (.dat (.bool true)) [.lst x] := by kernel_rfl
theorem e9_7 (x : List PyData) : finO 1 (r1_law_right (ev 9 7) [.lst x]) = .ok (.dat (.bool true)) [.lst x] := by kernel_rfl
theorem e9_8 (x : List PyData) : finO 1 (r1_law_right (ev 9 8) [.lst x]) = .ok (.dat (.bool true)) [.lst x] := by kernel_rfl
theorem e9_9 (x : List PyData) : finO 1 (r1_law_right (ev 9 9) [.lst x]) = .ok (.dat (.bool true)) [.lst x] := by kernel_rfl
theorem eAll (c : List PyData) : ∀ (m l : Int), 1 ≤ m → m ≤ 9 → 2 ≤ l → l ≤ 9 → finO 1 (r1_law_right (ev m l) [.lst c]) = .ok (.dat (.bool true)) [.lst c] := by
  intro m l h3 h4 h5 h6
  have hm : m = 1 ∨ m = 2 ∨ m = 3 ∨ m = 4 ∨ m = 5 ∨ m = 6 ∨ m = 7 ∨ m = 8 ∨ m = 9 := by omega
  have hl : l = 2 ∨ l = 3 ∨ l = 4 ∨ l = 5 ∨ l = 6 ∨ l = 7 ∨ l = 8 ∨ l = 9 := by omega
  rcases hm with rfl | rfl | rfl | rfl | rfl | rfl | rfl | rfl | rfl <;> rcases hl with rfl | rfl | rfl | rfl | rfl | rfl | rfl | rfl
  · exact e1_2 c
  · exact e1_3 c
  · exact e1_4 c
  · exact e1_5 c
  · exact e1_6 c
  · exact e1_7 c
  · exact e1_8 c
  · exact e1_9 c
  · exact e2_2 c
  · exact e2_3 c
  · exact e2_4 c
  · exact e2_5 c
  · exact e2_6 c
  · exact e2_7 c
  · exact e2_8 c
  · exact e2_9 c
  · exact e3_2 c
  · exact e3_3 c
  · exact e3_4 c
  · exact e3_5 c
  · exact e3_6 c
  · exact e3_7 c
  · exact e3_8 c
  · exact e3_9 c
  · exact e4_2 c
  · exact e4_3 c
  · exact e4_4 c
  · exact e4_5 c
  · exact e4_6 c
  · exact e4_7 c
  · exact e4_8 c
  · exact e4_9 c
  · exact e5_2 c
  · exact e5_3 c
  · exact e5_4 c
  · exact e5_5 c
  · exact e5_6 c
  · exact e5_7 c
  · exact e5_8 c
  · exact e5_9 c
  · exact e6_2 c
  · exact e6_3 c
  · exact e6_4 c
  · exact e6_5 c
  · exact e6_6 c
  · exact e6_7 c
  · exact e6_8 c
  · exact e6_9 c
  · exact e7_2 c
  · exact e7_3 c
  · exact e7_4 c
  · exact e7_5 c
  · exact e7_6 c
  · exact e7_7 c
  · exact e7_8 c
  · exact e7_9 c
  · exact e8_2 c
  · exact e8_3 c
  · exact e8_4 c
  · exact e8_5 c
  · exact e8_6 c
  · exact e8_7 c
  · exact e8_8 c
  · exact e8_9 c
  · exact e9_2 c
  · exact e9_3 c
  · exact e9_4 c
  · exact e9_5 c
  · exact e9_6 c
  · exact e9_7 c
  · exact e9_8 c
  · exact e9_9 c
theorem draw_eq : f_law_draw = wDraw := rfl
theorem of_eq : f_law_of = wOf := rfl
theorem well_eq : f_law_well = wWell := rfl
theorem right_eq : f_law_right = frm (fnOf 11 b_law_right) := rfl
theorem law_eq : f_law = frm (fnOf 3 (wbLaw (frm (fnOf 11 b_law_right)) ((20 : Nat) : Int))) := rfl
theorem right_ok : Right1 (fnOf 11 b_law_right) := by
  intro c0 w0
  have hh : ∀ {c : Cell}, isWell c → allH [c] := fun w z hz => by rw [List.mem_singleton.mp hz]; exact w.hid
  obtain ⟨x, c1, hx0, hx9, w1, e1⟩ := wDraw_ok (st := [c0]) (n := 0) rfl w0 (hh w0) (lim := 9) (by omega) (by omega)
  obtain ⟨y, c2, hy, w2, e2⟩ := wOf_ok (st := [c1]) (n := 0) rfl w1 (hh w1) [.int 3, .int 8] (by simp) (by simp)
  have hy' : ∃ z : Int, y = .int z ∧ (z = 3 ∨ z = 8) := by
    simp at hy
    rcases hy with rfl | rfl
    · exact ⟨3, rfl, .inl rfl⟩
    · exact ⟨8, rfl, .inr rfl⟩
  obtain ⟨z, rfl, hz⟩ := hy'
  obtain ⟨v, c3, hv0, hv8, w3, e3⟩ := wDraw_ok (st := [c2]) (n := 0) rfl w2 (hh w2) (lim := z) (by omega) (by omega)
  have hc3 : ∃ l, c3 = .lst l := by
    obtain ⟨a, b, k, rfl, _⟩ := w3; exact ⟨_, rfl⟩
  obtain ⟨l3, rfl⟩ := hc3
  have e := eAll l3 (1 + x) (2 + v) (by omega) (by omega) (by omega) (by omega)
  refine ⟨.lst l3, ?_, w3⟩
  refine finO_fn (o := r1_law_right (ev (1 + x) (2 + v)) [.lst l3]) ?_ e
  have start : startE 11 [.v (.ref 0)] = [some (.v (.ref 0)), none, none, none, none, none, none, none, none, none, none] := rfl
  rw [start]
  unfold b_law_right
  rw [draw_eq, of_eq]
  have a1 : cOp2 (liftD addD) (cD (.int 1)) (cCall wDraw (aCons (cVl (cV 0)) (aCons (cVl (cD (.int 9))) aNil))) [some (.v (.ref 0)), none, none, none, none, none, none, none, none, none, none] [c0] = .ok (.dat (.int (1 + x))) [c1] :=
    op_addI (st1 := [c0]) rfl ((call2 (a := .ref 0) (b := .dat (.int 9)) (st1 := [c0]) (st2 := [c0]) rfl rfl).trans e1)
  have a2 : cCall wOf (aCons (cVl (cV 0)) (aCons (cVl (cTup (cCons (cD (.int 3)) (cCons (cD (.int 8)) cNil)))) aNil)) [some (.v (.ref 0)), none, none, none, none, none, none, none, none, none, none] [c1] = .ok (.dat (.int z)) [c2] :=
    (call2 (a := .ref 0) (b := .dat (.tuple [.int 3, .int 8])) (st1 := [c1]) (st2 := [c1]) rfl rfl).trans e2
  have a3 : cOp2 (liftD addD) (cD (.int 2)) (cCall wDraw (aCons (cVl (cV 0)) (aCons (cVl (cCall wOf (aCons (cVl (cV 0)) (aCons (cVl (cTup (cCons (cD (.int 3)) (cCons (cD (.int 8)) cNil)))) aNil)))) aNil))) [some (.v (.ref 0)), none, none, none, none, none, none, none, none, none, none] [c1] = .ok (.dat (.int (2 + v))) [.lst l3] :=
    op_addI (st1 := [c1]) rfl ((call2 (a := .ref 0) (b := .dat (.int z)) (st1 := [c1]) (st2 := [c2]) rfl a2).trans e3)
  exact st_par (el_cons1 a1 (el_cons1 a3 (el_nil (st := [.lst l3]))))
theorem law_ok (ns : List Int) : f_law [.v (scrD ns)] [] = .ok (.dat (.bool true)) [] := by
  rw [law_eq]
  exact wLaw_ok right_ok ns 20 (by omega)
end K57

set_option Elab.async false
set_option linter.all false
set_option autoImplicit false
set_option maxRecDepth 100000
set_option maxHeartbeats 4000000
namespace K57
open PySem PySem.Spec PyProof.Rows L2 Zp
/-! the head, the end -/
abbrev R : PySem.W.OpenRow := PySem.W.OpenLaw.row PySem.Challenge.rw_partedlots_k57_whole_progressions
abbrev hk : PySem.W.Hook := hookY 6 fa fn gs tf (allEx exs)
def ob (s : PySem.W.SharedT) : AlY := obsY 6 fa fn gs tf (allEx exs) (HandSHeadRun.getT s)
theorem ob_eq (s : PySem.W.SharedT) : ob s = hk.obs s.abs := obsY_eq (HandSHeadRun.getT_eq s)
def loose0 : List PySem.Str := ["PartError", "InvalidNumber", "InvalidThings", "InvalidRows", "set_order", "in_order", "LETTERS_values", "MOST_LETTERS", "WORDS", "is_whole", "is_between", "is_one_of", "is_word", "is_name", "wrong_in", "are_below", "is_set_of_names", "MOST_THINGS", "MOST_ROWS", "wrong_in_things", "wrong_in_rows", "Lots", "check_number", "LETTERS_knownwork", "names_of", "lots_with", "progressions_by", "MOST_NUMBER", "LEAST_LONG", "progressions"]
def loose1 : List PySem.Str := ["_law_well", "_law_draw", "_law_of", "_law_same", "_law_in_order", "_law_within", "_law_progressions", "_law_right"]
abbrev loose : List PySem.Str := loose0 ++ loose1
theorem run (w : World) : HandSHeadRun.RunEq R (PySem.W.view R.prog [46]) hk ob 4000 loose w := by
  intro os
  kernel_rfl
end K57

set_option Elab.async false
set_option linter.all false
set_option maxRecDepth 100000
set_option maxHeartbeats 0
open PySem PySem.W PySem.Calls PyProof.Rows
theorem PySem.Challenge.cw_partedlots_k57_whole_progressions_holds : PySem.Challenge.rw_partedlots_k57_whole_progressions.Holds := by
  w_on; o_law
  refine HandSHeadRun.head_any (r := OpenLaw.row PySem.Challenge.rw_partedlots_k57_whole_progressions) (q := view (OpenLaw.row PySem.Challenge.rw_partedlots_k57_whole_progressions).prog [46]) (H := K57.hk) (ob := K57.ob) (M := 4000) (loose := K57.loose) (d := HandSHeadRun.topDef (OpenLaw.row PySem.Challenge.rw_partedlots_k57_whole_progressions).prog 46) (kwd := []) K57.ob_eq
    (by kernel_rfl) (fun s => by kernel_rfl) K57.run (by kernel_rfl) (by kernel_rfl) (by kernel_rfl) (by rfl) (by first | assumption | decide +kernel) (by decide +kernel) ⟨rfl, rfl, rfl, rfl, rfl, by decide +kernel⟩ ?hw ?hc
  case hw => w_witness2
  case hc =>
    refine LamX.walk_ofTsE (l := PySem.Challenge.rw_partedlots_k57_whole_progressions) (n := 63) (k := 14) (x := "script") (CX := fun w => L2.CX (PySem.Challenge.rw_partedlots_k57_whole_progressions).prog w) rfl (by decide) (by kernel_rfl) ⟨rfl, by decide, by decide⟩ ?F ?hCX
    case F =>
      intro w mg fa h Y G hmg0
      obtain ⟨K, KX, c, g⟩ := Y
      have hmg : mg ("law" : PySem.Str) = some (.ref fa) := by
        have e : (HandSHeadRun.topDef (OpenLaw.row PySem.Challenge.rw_partedlots_k57_whole_progressions).prog 46).name = ("law" : PySem.Str) := by kernel_rfl
        rw [← e]
        exact hmg0
      let L : K57.LW := ⟨w, K, mg, h, KX, G, c, g⟩
      have e := hmg.symm.trans (L.glo 52)
      cases e
      obtain ⟨fd, D⟩ := K57.k_law L
      exact ⟨K, KX, Zp.law_at L (tq := K57.TQ) rfl D (fun s v => (L2.FunD.bindsA (ps := ["script"]) D.F fun _ _ _ _ _ _ us hl => match us, hl with | [_], _ => rfl) s [v] rfl) fun ns _ _ => ⟨_, K57.law_ok ns⟩⟩
    case hCX =>
      intro w H s e s1 h
      obtain ⟨_, _, _, _, _, _, _, _, _, _, _, _, z⟩ := h
      exact z

