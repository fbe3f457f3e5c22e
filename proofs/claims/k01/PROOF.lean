import PyProof.Rows.All
import Wide.All
import OpenK.AllK
import Wide.FinOn
import HandS.ForMost
import HandS.ForExc
import HandS.Walk
import HandS.Defaults
import KE.KeyNested
import HandS.TupAny
import HandS.Deep
import HandS.TupLe
import HandS.IsInst
import HandS.Conv
import HandS.Flow
import HandS.SortInts
import HandS.SortRule
import KE.GoesEnum
import HandS.Iter
import HandS.Comp
import HandS.ExcOwn
import HandS.Head0
import HandS.Head1
import HandS.Head2
import HandS.HeadEnd
import HandS.HeadHook1
import HandS.HeadHook2
import HandS.List
import HandS.Words
import HandS.Style
import PySem.Challenge.RW_wherewas_k01_whole_claims
set_option Elab.async false
set_option linter.all false
set_option maxRecDepth 100000
set_option autoImplicit false
set_option maxHeartbeats 1000000
namespace WW
open PySem PySem.Spec PyProof.Rows L2
/-- plain data -/
inductive D where
  | non | bl (b : Bool) | int (i : Int) | str (s : Str) | lst (xs : List D) | tup (xs : List D) | dct (ks vs : List D) | exc (k : Nat) | cell (i : Nat)
/-- a thing that calls change -/
inductive Cell where
  | town (ns : List Int) (k : Int)
structure Cfg where
  P : Program
  w : World
  K : PySem.W.Frag
  CA : Nat → Addr
mutual
def toNK : D → Option NestedKey
  | .non => some .none
  | .bl b => some (.num (if b = true then 1 else 0))
  | .int i => some (.num i)
  | .str s => some (.text s)
  | .tup ds => (toNKs ds).map .tup
  | _ => none
def toNKs : List D → Option (List NestedKey)
  | [] => some []
  | d :: ds => match toNK d, toNKs ds with
    | some k, some r => some (k :: r)
    | _, _ => none
end
def keyD : Key → D
  | .inl i => .int i
  | .inr s => .str s
/-- a dict with keys of tuples -/
def dictO (c : Cfg) (a : Addr) (es : List (NestedKey × Addr × V)) : HO := .ext fun h => es.length ≤ sizeLine ∧ (a == sysModules) = false ∧
  ∃ xs : List (NestedKey × Addr × Value), Paired (fun p q => p.1 = q.1 ∧ p.2.1 = q.2.1 ∧ RelV p.2.2 q.2.2) es xs ∧
    ∃ o ds ep, h.get? a = some o ∧ o.ExactDict ∧ o.data = .dict ds ep ∧ ds.toList = xs.map (entryOfKey (nestedKind c.P c.w)) ∧ (xs.map (·.1)).Nodup
/-- a caught exception -/
def excObj (c : Cfg) (k : Nat) (a : Addr) : HO := .ext fun h => ∃ oe vs, h.get? a = some oe ∧ oe.cls = .ref (c.CA k) ∧ oe.dict = none ∧ oe.data = .fields vs
mutual
/-- the value v is the data d, by the frozen heap G -/
inductive Rep (c : Cfg) (L : List (List Addr)) (G : Hp) : V → D → Prop
  | non : Rep c L G .non .non
  | bl (b) : Rep c L G (.bl b) (.bl b)
  | int (i) : Rep c L G (.int i) (.int i)
  | str (s) (h : PyData.strOk s = true) : Rep c L G (.str s) (.str s)
  | lst {a vs ds} : G a = some (.lst vs) → RepL c L G vs ds → ds.length ≤ sizeLine → Rep c L G (.ref a) (.lst ds)
  | tup {a vs ds} : SqT c.K G a vs → RepL c L G vs ds → ds.length ≤ sizeLine → Rep c L G (.ref a) (.tup ds)
  | dk {a kvs vs} : G a = some (.dK kvs) → RepL c L G (kvs.map (·.2)) vs → kvs.length ≤ sizeLine → Rep c L G (.ref a) (.dct (kvs.map fun p => keyD p.1) vs)
  | dn {a es ks vs} : G a = some (dictO c a es) → RepL c L G (es.map fun e => V.ref e.2.1) ks → ks.map toNK = es.map (fun e => some e.1) →
      RepL c L G (es.map (·.2.2)) vs → es.length ≤ sizeLine → Rep c L G (.ref a) (.dct ks vs)
  | exc {a k} : G a = some (excObj c k a) → Rep c L G (.ref a) (.exc k)
  | cell {a i r} : L[i]? = some (a :: r) → Rep c L G (.ref a) (.cell i)
inductive RepL (c : Cfg) (L : List (List Addr)) (G : Hp) : List V → List D → Prop
  | nil : RepL c L G [] []
  | cons {v vs d ds} : Rep c L G v d → RepL c L G vs ds → RepL c L G (v :: vs) (d :: ds)
end
/-- the cells stay where they are -/
def LE (L L' : List (List Addr)) : Prop := ∀ (i : Nat) (a : Addr) (r : List Addr), L[i]? = some (a :: r) → ∃ r', L'[i]? = some (a :: r')
theorem LE.refl (L : List (List Addr)) : LE L L := fun _ _ r h => ⟨r, h⟩
theorem LE.trans {L L1 L2 : List (List Addr)} (a : LE L L1) (b : LE L1 L2) : LE L L2 := fun i x r h => by
  obtain ⟨r1, h1⟩ := a i x r h
  exact b i x r1 h1
/-- all that is frozen stays so -/
abbrev GE (G G' : Hp) : Prop := Same G G'
theorem sqT_mono {K : PySem.W.Frag} {G G' : Hp} {a : Addr} {xs : List V} (e : Same G G') (h : SqT K G a xs) : SqT K G' a xs := by
  rcases h with (h | ⟨o, h⟩) | h
  · exact .inl (.inl (e _ _ h))
  · exact .inl (.inr ⟨o, e _ _ h⟩)
  · exact .inr h
mutual
theorem Rep.mono {c : Cfg} {L L' : List (List Addr)} {G G' : Hp} (hL : LE L L') (hG : Same G G') : ∀ (d : D) (v : V), Rep c L G v d → Rep c L' G' v d
  | .non, _, h => by cases h; exact .non
  | .bl _, _, h => by cases h; exact .bl _
  | .int _, _, h => by cases h; exact .int _
  | .str _, _, h => by
    cases h with
    | str _ h1 => exact .str _ h1
  | .lst ds, _, h => by
    cases h with
    | lst h1 h2 h3 => exact .lst (hG _ _ h1) (RepL.mono hL hG ds _ h2) h3
  | .tup ds, _, h => by
    cases h with
    | tup h1 h2 h3 => exact .tup (sqT_mono hG h1) (RepL.mono hL hG ds _ h2) h3
  | .dct ks vs, _, h => by
    cases h with
    | dk h1 h2 h3 => exact .dk (hG _ _ h1) (RepL.mono hL hG vs _ h2) h3
    | dn h1 h2 h3 h4 h5 => exact .dn (hG _ _ h1) (RepL.mono hL hG ks _ h2) h3 (RepL.mono hL hG vs _ h4) h5
  | .exc _, _, h => by
    cases h with
    | exc h1 => exact .exc (hG _ _ h1)
  | .cell _, _, h => by
    cases h with
    | cell h1 =>
      obtain ⟨r', h2⟩ := hL _ _ _ h1
      exact .cell h2
theorem RepL.mono {c : Cfg} {L L' : List (List Addr)} {G G' : Hp} (hL : LE L L') (hG : Same G G') : ∀ (ds : List D) (vs : List V), RepL c L G vs ds → RepL c L' G' vs ds
  | [], _, h => by cases h; exact .nil
  | d :: ds, _, h => by
    cases h with
    | cons h1 h2 => exact .cons (Rep.mono hL hG d _ h1) (RepL.mono hL hG ds _ h2)
end
theorem Rep.up {c : Cfg} {L L' : List (List Addr)} {G G' : Hp} {d : D} {v : V} (h : Rep c L G v d) (hL : LE L L') (hG : Same G G') : Rep c L' G' v d := Rep.mono hL hG d v h
theorem RepL.up {c : Cfg} {L L' : List (List Addr)} {G G' : Hp} {d : List D} {v : List V} (h : RepL c L G v d) (hL : LE L L') (hG : Same G G') : RepL c L' G' v d := RepL.mono hL hG d v h
section
variable {c : Cfg} {L : List (List Addr)} {G : Hp}
theorem RepL.length : ∀ {vs : List V} {ds : List D}, RepL c L G vs ds → vs.length = ds.length
  | _, _, .nil => rfl
  | _, _, .cons _ h => by simp [RepL.length h]
theorem RepL.get : ∀ {vs : List V} {ds : List D} {i : Nat} {d : D}, RepL c L G vs ds → ds[i]? = some d → ∃ v, vs[i]? = some v ∧ Rep c L G v d
  | _, _, _, _, .nil, e => by simp at e
  | _, _, 0, _, .cons r _, e => by simp at e; subst e; exact ⟨_, rfl, r⟩
  | _, _, i + 1, d, .cons _ t, e => by
    obtain ⟨v, h1, h2⟩ := RepL.get (i := i) (d := d) t (by simpa using e)
    exact ⟨v, by simpa using h1, h2⟩
theorem RepL.getV : ∀ {vs : List V} {ds : List D} {i : Nat} {v : V}, RepL c L G vs ds → vs[i]? = some v → ∃ d, ds[i]? = some d ∧ Rep c L G v d
  | _, _, _, _, .nil, e => by simp at e
  | _, _, 0, _, .cons r _, e => by simp at e; subst e; exact ⟨_, rfl, r⟩
  | _, _, i + 1, v, .cons _ t, e => by
    obtain ⟨d, h1, h2⟩ := RepL.getV (i := i) (v := v) t (by simpa using e)
    exact ⟨d, by simpa using h1, h2⟩
theorem RepL.append : ∀ {xs ys : List V} {ds es : List D}, RepL c L G xs ds → RepL c L G ys es → RepL c L G (xs ++ ys) (ds ++ es)
  | _, _, _, _, .nil, h => h
  | _, _, _, _, .cons r t, h => .cons r (RepL.append t h)
theorem RepL.snoc {xs : List V} {ds : List D} {v : V} {d : D} (h : RepL c L G xs ds) (r : Rep c L G v d) : RepL c L G (xs ++ [v]) (ds ++ [d]) := h.append (.cons r .nil)
theorem RepL.take : ∀ {xs : List V} {ds : List D} (n : Nat), RepL c L G xs ds → RepL c L G (xs.take n) (ds.take n)
  | _, _, 0, _ => .nil
  | _, _, _ + 1, .nil => .nil
  | _, _, n + 1, .cons r t => .cons r (RepL.take n t)
theorem RepL.drop : ∀ {xs : List V} {ds : List D} (n : Nat), RepL c L G xs ds → RepL c L G (xs.drop n) (ds.drop n)
  | _, _, 0, h => h
  | _, _, _ + 1, .nil => .nil
  | _, _, n + 1, .cons _ t => RepL.drop n t
theorem RepL.set : ∀ {xs : List V} {ds : List D} {v : V} {d : D} (n : Nat), RepL c L G xs ds → Rep c L G v d → RepL c L G (xs.set n v) (ds.set n d)
  | _, _, _, _, _, .nil, _ => .nil
  | _, _, _, _, 0, .cons _ t, h => .cons h t
  | _, _, _, _, n + 1, .cons r t, h => .cons r (RepL.set n t h)
theorem RepL.ints : ∀ {vs : List V} {ns : List Int}, RepL c L G vs (ns.map .int) → vs = ns.map .int
  | _, [], h => by cases h; rfl
  | _, n :: ns, h => by
    cases h with
    | cons h1 h2 => cases h1; rw [RepL.ints h2]; rfl
theorem RepL.bls : ∀ {vs : List V} {bs : List Bool}, RepL c L G vs (bs.map .bl) → vs = bs.map .bl
  | _, [], h => by cases h; rfl
  | _, n :: ns, h => by
    cases h with
    | cons h1 h2 => cases h1; rw [RepL.bls h2]; rfl
theorem repL_ints : ∀ (ns : List Int), RepL c L G (ns.map .int) (ns.map .int)
  | [] => .nil
  | n :: ns => .cons (.int n) (repL_ints ns)
end
/-- what a slot of the def holds: data; a list or a dict that the def alone holds and may change -/
inductive SV where
  | d (x : D) | ol (xs : List D) | od (ks vs : List D)
abbrev En := List (Option SV)
/-- the entry: the cells' addresses, the heap; what is locked -/
structure Gh where
  L0 : List (List Addr)
  H0 : Hp
  G0 : Hp
  lk : List Addr
  xo : List (Addr × HO) := []
def CellRep (H : Hp) : List Addr → Cell → Prop
  | r, .town ns k => ∃ a n, r = [a, n] ∧ H a = some (.lst [.ref n, .int k]) ∧ H n = some (.lst (ns.map .int))
inductive StoreRep (H : Hp) : List (List Addr) → List Cell → Prop
  | nil : StoreRep H [] []
  | cons {r L x T} : CellRep H r x → StoreRep H L T → StoreRep H (r :: L) (x :: T)
/-- a dict's kind: what may be locked -/
def Lockable : HO → Prop
  | .dK _ => True
  | .ext _ => True
  | _ => False
/-- a dict's content -/
def DRep (c : Cfg) (L : List (List Addr)) (G : Hp) (p : Addr) (o : HO) (ks vs : List D) : Prop :=
  (∃ kvs, o = .dK kvs ∧ ks = kvs.map (fun q => keyD q.1) ∧ RepL c L G (kvs.map (·.2)) vs ∧ kvs.length ≤ sizeLine) ∨
  ∃ es, o = dictO c p es ∧ RepL c L G (es.map fun e => V.ref e.2.1) ks ∧ ks.map toNK = es.map (fun e => some e.1) ∧ RepL c L G (es.map (·.2.2)) vs ∧ es.length ≤ sizeLine
def SlotRep (c : Cfg) (L : List (List Addr)) (G H H0 : Hp) : V → SV → Prop
  | v, .d x => Rep c L G v x
  | v, .ol ds => ∃ p vs, v = .ref p ∧ H p = some (.lst vs) ∧ RepL c L G vs ds ∧ ds.length ≤ sizeLine ∧ G p = none ∧ p ∉ L.flatten ∧ H0 p = none
  | v, .od ks vs => ∃ p o, v = .ref p ∧ H p = some o ∧ DRep c L G p o ks vs ∧ G p = none ∧ p ∉ L.flatten ∧ H0 p = none
def Own : SV → Prop
  | .d _ => False
  | _ => True
structure Sta (c : Cfg) (e : Gh) (L : List (List Addr)) (T : List Cell) (G H : Hp) (σ : L2.St) (ρ : En) : Prop where
  sub : ∀ a o, G a = some o → H a = some o ∨ (Lockable o ∧ ∃ ob, H a = some (.frz ob o))
  same : ∀ a o, e.H0 a = some o → a ∉ e.L0.flatten → (a ∉ e.lk → H a = some o) ∧ (a ∈ e.lk → ∃ ob, H a = some (.frz ob o))
  store : StoreRep H L T
  ldist : L.flatten.Nodup
  lfree : ∀ a ∈ L.flatten, G a = none
  lmem0 : ∀ a ∈ L.flatten, a ∈ e.L0.flatten ∨ e.H0 a = none
  l0free : ∀ a ∈ e.L0.flatten, G a = none
  gnew : ∀ a, G a ≠ none → e.G0 a ≠ none ∨ e.H0 a = none
  l0there : ∀ a ∈ e.L0.flatten, H a ≠ none
  l0h : ∀ a ∈ e.L0.flatten, e.H0 a ≠ none
  len : σ.length = ρ.length
  slot : ∀ (i : Nat) (sv : SV), ρ[i]? = some (some sv) → ∃ v, σ[i]? = some (some v) ∧ SlotRep c L G H e.H0 v sv
  xown : ∀ q ∈ e.xo, H q.1 = some q.2 ∧ G q.1 = none ∧ q.1 ∉ L.flatten ∧ q.1 ∉ e.L0.flatten ∧ e.H0 q.1 = none ∧ ∀ (i : Nat) (sv : SV), ρ[i]? = some (some sv) → Own sv → σ[i]? ≠ some (some (.ref q.1))
  disj : ∀ (i j : Nat) (x y : SV), i ≠ j → ρ[i]? = some (some x) → ρ[j]? = some (some y) → Own x → Own y → σ[i]? ≠ σ[j]?
theorem DRep.mono {c : Cfg} {L L' : List (List Addr)} {G G' : Hp} {p : Addr} {o : HO} {ks vs : List D} (hL : LE L L') (hG : Same G G') (h : DRep c L G p o ks vs) : DRep c L' G' p o ks vs := by
  rcases h with ⟨kvs, h1, h2, h3, h5⟩ | ⟨es, h1, h2, h3, h4, h5⟩
  · exact .inl ⟨kvs, h1, h2, h3.up hL hG, h5⟩
  · exact .inr ⟨es, h1, h2.up hL hG, h3, h4.up hL hG, h5⟩
theorem DRep.rep {c : Cfg} {L : List (List Addr)} {G : Hp} {p : Addr} {o : HO} {ks vs : List D} (h : DRep c L G p o ks vs) (hp : G p = some o) : Rep c L G (.ref p) (.dct ks vs) := by
  rcases h with ⟨kvs, rfl, rfl, h3, h5⟩ | ⟨es, rfl, h2, h3, h4, h5⟩
  · exact .dk hp h3 h5
  · exact .dn hp h2 h3 h4 h5
theorem DRep.lockable {c : Cfg} {L : List (List Addr)} {G : Hp} {p : Addr} {o : HO} {ks vs : List D} (h : DRep c L G p o ks vs) : Lockable o := by
  rcases h with ⟨kvs, rfl, rfl, h3⟩ | ⟨es, rfl, h2, h3, h4⟩ <;> trivial
theorem CellRep.keeps {H H' : Hp} {r : List Addr} {x : Cell} (h : CellRep H r x) (k : ∀ a ∈ r, ∀ o, H a = some o → H' a = some o) : CellRep H' r x := by
  cases x with
  | town ns t =>
    obtain ⟨a, n, rfl, h1, h2⟩ := h
    exact ⟨a, n, rfl, k a (by simp) _ h1, k n (by simp) _ h2⟩
theorem StoreRep.keeps {H H' : Hp} : ∀ {L : List (List Addr)} {T : List Cell}, StoreRep H L T → (∀ a ∈ L.flatten, ∀ o, H a = some o → H' a = some o) → StoreRep H' L T
  | _, _, .nil, _ => .nil
  | _, _, .cons r t, k => .cons (r.keeps fun a ha => k a (by simp [ha])) (t.keeps fun a ha => k a (by simp only [List.flatten_cons, List.mem_append]; exact .inr ha))
theorem CellRep.there {H : Hp} {r : List Addr} {x : Cell} (h : CellRep H r x) : ∀ a ∈ r, H a ≠ none := by
  cases x with
  | town ns t =>
    obtain ⟨a, n, rfl, h1, h2⟩ := h
    intro b hb
    simp only [List.mem_cons, List.not_mem_nil, or_false] at hb
    rcases hb with rfl | rfl
    · rw [h1]; simp
    · rw [h2]; simp
theorem StoreRep.there {H : Hp} : ∀ {L : List (List Addr)} {T : List Cell}, StoreRep H L T → ∀ a ∈ L.flatten, H a ≠ none
  | _, _, .nil, a, ha => by simp at ha
  | _, _, .cons r t, a, ha => by
    simp only [List.flatten_cons, List.mem_append] at ha
    rcases ha with ha | ha
    · exact r.there a ha
    · exact t.there a ha
section
variable {c : Cfg} {e : Gh} {L : List (List Addr)} {T : List Cell} {G H : Hp} {σ : L2.St} {ρ : En}
theorem Sta.gnone (S : Sta c e L T G H σ ρ) {p : Addr} (h : H p = none) : G p = none := by
  cases q : G p with
  | none => rfl
  | some o =>
    rcases S.sub p o q with z | ⟨_, ob, z⟩ <;> rw [h] at z <;> cases z
theorem Sta.h0none (S : Sta c e L T G H σ ρ) {p : Addr} (h : H p = none) (hl : p ∉ L.flatten) (hl0 : p ∉ e.L0.flatten) : e.H0 p = none := by
  cases q : e.H0 p with
  | none => rfl
  | some o =>
    obtain ⟨z1, z2⟩ := S.same p o q hl0
    by_cases m : p ∈ e.lk
    · obtain ⟨ob, z⟩ := z2 m
      rw [h] at z; cases z
    · rw [z1 m] at h; cases h
/-- the heap grows by an object that nobody knows of yet; frozen at once or not -/
theorem Sta.grow (S : Sta c e L T G H σ ρ) {p : Addr} {o : HO} (hp : H p = none) : Sta c e L T G (upd H p o) σ ρ := by
  have ne : ∀ {a : Addr} {u : HO}, H a = some u → upd H p o a = some u := fun {a u} h => by rw [upd_ne (ne_of_none h hp)]; exact h
  refine ⟨fun a u h => ?_, fun a u h hl => ?_, S.store.keeps fun a _ u h => ne h, S.ldist, S.lfree, S.lmem0, S.l0free, S.gnew, fun a ha => ?_, S.l0h, S.len, fun i sv h => ?_, fun q hq => ?_, S.disj⟩
  · rcases S.sub a u h with z | ⟨z, ob, y⟩
    · exact .inl (ne z)
    · exact .inr ⟨z, ob, ne y⟩
  · obtain ⟨z1, z2⟩ := S.same a u h hl
    refine ⟨fun m => ne (z1 m), fun m => ?_⟩
    obtain ⟨ob, z⟩ := z2 m
    exact ⟨ob, ne z⟩
  · have q := S.l0there a ha
    cases q2 : H a with
    | none => exact absurd q2 q
    | some u => rw [ne q2]; simp
  · obtain ⟨v, h1, h2⟩ := S.slot i sv h
    refine ⟨v, h1, ?_⟩
    cases sv with
    | d x => exact h2
    | ol ds =>
      obtain ⟨q, vs, rfl, h3, h4⟩ := h2
      exact ⟨q, vs, rfl, ne h3, h4⟩
    | od ks vs =>
      obtain ⟨q, u, rfl, h3, h4⟩ := h2
      exact ⟨q, u, rfl, ne h3, h4⟩
  · obtain ⟨h1, h2⟩ := S.xown q hq
    exact ⟨ne h1, h2⟩
/-- an object that no slot owns is frozen -/
theorem Sta.freeze (S : Sta c e L T G H σ ρ) {p : Addr} {o : HO} (hp : H p = some o) (hg : G p = none) (hl : p ∉ L.flatten) (hl0 : p ∉ e.L0.flatten) (h0 : e.H0 p = none) (hxo : ∀ q ∈ e.xo, q.1 ≠ p)
    (hs : ∀ (i : Nat) (sv : SV), ρ[i]? = some (some sv) → Own sv → σ[i]? ≠ some (some (.ref p))) : Sta c e L T (upd G p o) H σ ρ := by
  have gs : Same G (upd G p o) := fun a u h => by rw [upd_ne (ne_of_none h hg)]; exact h
  refine ⟨fun a u h => ?_, S.same, S.store, S.ldist, fun a ha => ?_, S.lmem0, fun a ha => ?_, fun a ha => ?_, S.l0there, S.l0h, S.len, fun i sv h => ?_, fun q hq => ?_, S.disj⟩
  · by_cases ha : a = p
    · subst ha
      rw [upd_same] at h; cases h
      exact .inl hp
    · rw [upd_ne ha] at h
      exact S.sub a u h
  · rw [upd_ne (show a ≠ p from fun z => hl (z ▸ ha))]; exact S.lfree a ha
  · rw [upd_ne (show a ≠ p from fun z => hl0 (z ▸ ha))]; exact S.l0free a ha
  · by_cases z : a = p
    · subst z; exact .inr h0
    · rw [upd_ne z] at ha; exact S.gnew a ha
  · obtain ⟨v, h1, h2⟩ := S.slot i sv h
    refine ⟨v, h1, ?_⟩
    cases sv with
    | d x => exact h2.up (LE.refl _) gs
    | ol ds =>
      obtain ⟨q, vs, rfl, h3, h4, hz, h5, h6⟩ := h2
      have nq : q ≠ p := fun z => hs i _ h trivial (by rw [h1, z])
      exact ⟨q, vs, rfl, h3, h4.up (LE.refl _) gs, hz, by rw [upd_ne nq]; exact h5, h6⟩
    | od ks vs =>
      obtain ⟨q, u, rfl, h3, h4, h5, h6⟩ := h2
      have nq : q ≠ p := fun z => hs i _ h trivial (by rw [h1, z])
      exact ⟨q, u, rfl, h3, h4.mono (LE.refl _) gs, by rw [upd_ne nq]; exact h5, h6⟩
  · obtain ⟨h1, h2, h3⟩ := S.xown q hq
    exact ⟨h1, by rw [upd_ne (hxo q hq)]; exact h2, h3⟩
theorem Sta.notx (S : Sta c e L T G H σ ρ) {p : Addr} (hp : H p = none) : ∀ q ∈ e.xo, q.1 ≠ p := fun q hq z => by
  have := (S.xown q hq).1
  rw [z, hp] at this
  cases this
theorem Sta.notslot (S : Sta c e L T G H σ ρ) {p : Addr} (hp : H p = none) : ∀ (i : Nat) (sv : SV), ρ[i]? = some (some sv) → Own sv → σ[i]? ≠ some (some (.ref p)) := fun i sv h ow z => by
  obtain ⟨v, h1, h2⟩ := S.slot i sv h
  rw [h1] at z
  cases z
  cases sv with
  | d x => exact ow
  | ol ds =>
    obtain ⟨q, vs, e1, h3, _⟩ := h2
    cases e1
    rw [hp] at h3; cases h3
  | od ks vs =>
    obtain ⟨q, u, e1, h3, _⟩ := h2
    cases e1
    rw [hp] at h3; cases h3
theorem Sta.notcell (S : Sta c e L T G H σ ρ) {p : Addr} (hp : H p = none) : p ∉ L.flatten := fun z => S.store.there p z hp
end
end WW
set_option maxHeartbeats 1000000
namespace WW
open PySem PySem.Spec PyProof.Rows L2
inductive Rs (α : Type) where
  | ok (a : α) (t : List Cell) | exn (k : Nat) (t : List Cell) | bad
def M (α : Type) : Type := List Cell → Rs α
namespace M
def ret {α : Type} (a : α) : M α := fun t => .ok a t
def bnd {α β : Type} (x : M α) (f : α → M β) : M β := fun t => match x t with
  | .ok a t' => f a t'
  | .exn k t' => .exn k t'
  | .bad => .bad
def fail {α : Type} : M α := fun _ => .bad
def rais {α : Type} (k : Nat) : M α := fun t => .exn k t
def ofO {α : Type} : Option α → M α
  | some a => ret a
  | none => fail
end M
instance : Monad M where
  pure := M.ret
  bind := M.bnd
section
variable {α β γ : Type}
@[simp] theorem pure_eq (a : α) : (pure a : M α) = M.ret a := (rfl)
@[simp] theorem ret_bind (a : α) (f : α → M β) : (M.ret a >>= f) = f a := (rfl)
@[simp] theorem fail_bind (f : α → M β) : ((M.fail : M α) >>= f) = M.fail := (rfl)
@[simp] theorem rais_bind (k : Nat) (f : α → M β) : ((M.rais k : M α) >>= f) = M.rais k := (rfl)
theorem bnd_ok {x : M α} {f : α → M β} {t t' : List Cell} {a : α} (h : x t = .ok a t') : (x >>= f) t = f a t' := by
  show M.bnd x f t = _
  unfold M.bnd
  rw [h]
theorem bnd_exn {x : M α} {f : α → M β} {t t' : List Cell} {k : Nat} (h : x t = .exn k t') : (x >>= f) t = .exn k t' := by
  show M.bnd x f t = _
  unfold M.bnd
  rw [h]
theorem bnd_bad {x : M α} {f : α → M β} {t : List Cell} (h : x t = .bad) : (x >>= f) t = .bad := by
  show M.bnd x f t = _
  unfold M.bnd
  rw [h]
theorem bind_assoc' (x : M α) (f : α → M β) (g : β → M γ) : (x >>= f >>= g) = (x >>= fun a => f a >>= g) := by
  funext t
  show (match (match x t with | .ok a t' => f a t' | .exn k t' => .exn k t' | .bad => .bad) with | .ok a t' => g a t' | .exn k t' => Rs.exn k t' | .bad => .bad) = (match x t with | .ok a t' => (match f a t' with | .ok a t' => g a t' | .exn k t' => Rs.exn k t' | .bad => .bad) | .exn k t' => .exn k t' | .bad => .bad)
  cases x t <;> rfl
end
abbrev Ex := En → M D
def PostG {α β : Type} (c : Cfg) (e : Gh) (W : WX) (σ : L2.St) (ρ : En) (R : List (List Addr) → Hp → β → α → Prop) (L : List (List Addr)) (G : Hp) (r : Rs α) (Q : β → Hp → Prop) : Prop :=
  match r with
  | .ok a T' => ∀ v L' G' H', LE L L' → Same G G' → Sta c e L' T' G' H' σ ρ → R L' G' v a → Q v H'
  | .exn k T' => ∀ L' G' H', LE L L' → Same G G' → Sta c e L' T' G' H' σ ρ → W (.ref (c.CA k)) none σ H'
  | .bad => False
def tG {α β : Type} (c : Cfg) (W : WX) (R : List (List Addr) → Hp → β → α → Prop) (f : En → M α) : L2.St → Hp → (β → Hp → Prop) → Prop := fun σ H Q =>
  ∃ e L T G ρ, Sta c e L T G H σ ρ ∧ PostG c e W σ ρ R L G (f ρ T) Q
abbrev tD (c : Cfg) (W : WX) (f : Ex) : TE := tG c W (Rep c) f
abbrev tL (c : Cfg) (W : WX) (f : En → M (List D)) : TA := tG c W (RepL c) f
abbrev tT (c : Cfg) (W : WX) (f : En → M Bool) : TT := tG c W (fun _ _ (b b' : Bool) => b = b') f
section
variable {α β γ δ : Type} {c : Cfg} {e : Gh} {W : WX} {σ : L2.St} {ρ : En} {L L1 : List (List Addr)} {G G1 H : Hp} {T : List Cell}
theorem PostG.up {R : List (List Addr) → Hp → β → α → Prop} {r : Rs α} {Q : β → Hp → Prop} (h : PostG c e W σ ρ R L G r Q) (hL : LE L L1) (hG : Same G G1) : PostG c e W σ ρ R L1 G1 r Q := by
  cases r with
  | ok a T' => exact fun v L' G' H' h1 h2 S r => h v L' G' H' (hL.trans h1) (hG.trans h2) S r
  | exn k T' => exact fun L' G' H' h1 h2 S => h L' G' H' (hL.trans h1) (hG.trans h2) S
  | bad => exact h
theorem PostG.then {R1 : List (List Addr) → Hp → β → α → Prop} {R2 : List (List Addr) → Hp → δ → γ → Prop} {x : M α} {k : α → M γ} {Q : δ → Hp → Prop} (h : PostG c e W σ ρ R2 L G ((x >>= k) T) Q) :
    PostG c e W σ ρ R1 L G (x T) fun v H1 => ∃ L1 T1 G1 a, LE L L1 ∧ Same G G1 ∧ Sta c e L1 T1 G1 H1 σ ρ ∧ R1 L1 G1 v a ∧ x T = .ok a T1 ∧ PostG c e W σ ρ R2 L1 G1 (k a T1) Q := by
  have h' : PostG c e W σ ρ R2 L G (match x T with | .ok a t' => k a t' | .exn k t' => .exn k t' | .bad => .bad) Q := h
  generalize x T = r at h' ⊢
  cases r with
  | ok a T' => exact fun v L' G' H' h1 h2 S q => ⟨L', T', G', a, h1, h2, S, q, rfl, PostG.up h' h1 h2⟩
  | exn k T' => exact h'
  | bad => exact h'
theorem PostG.mono {R : List (List Addr) → Hp → β → α → Prop} {r : Rs α} {Q Q' : β → Hp → Prop} (h : PostG c e W σ ρ R L G r Q) (i : ∀ v H, Q v H → Q' v H) : PostG c e W σ ρ R L G r Q' := by
  cases r with
  | ok a T' => exact fun v L' G' H' h1 h2 S r => i _ _ (h v L' G' H' h1 h2 S r)
  | exn k T' => exact h
  | bad => exact h
theorem tG.mono {R : List (List Addr) → Hp → β → α → Prop} {f : En → M α} {Q Q' : β → Hp → Prop} (h : tG c W R f σ H Q) (i : ∀ v H, Q v H → Q' v H) : tG c W R f σ H Q' := by
  obtain ⟨e, L, T, G, ρ, S, p⟩ := h
  exact ⟨e, L, T, G, ρ, S, p.mono i⟩
/-- one evaluated ahead of what follows -/
theorem tG.one {R1 : List (List Addr) → Hp → β → α → Prop} {R2 : List (List Addr) → Hp → δ → γ → Prop} {f : En → M α} {k : α → En → M γ} {Q : δ → Hp → Prop} (h : tG c W R2 (fun ρ => f ρ >>= fun a => k a ρ) σ H Q) :
    tG c W R1 f σ H fun v H1 => ∃ e L T G ρ a, Sta c e L T G H1 σ ρ ∧ R1 L G v a ∧ PostG c e W σ ρ R2 L G (k a ρ T) Q := by
  obtain ⟨e, L, T, G, ρ, S, p⟩ := h
  refine ⟨e, L, T, G, ρ, S, ?_⟩
  have q := PostG.then (R1 := R1) p
  generalize hr : f ρ T = r at q ⊢
  cases r with
  | ok a T' =>
    intro v L' G' H' h1 h2 S' r
    obtain ⟨L1, T1, G1, a1, h3, h4, S1, r1, e1, p1⟩ := q v L' G' H' h1 h2 S' r
    exact ⟨e, L1, T1, G1, ρ, a1, S1, r1, p1⟩
  | exn k T' => exact q
  | bad => exact q
/-- two -/
theorem tG.two {R1 : List (List Addr) → Hp → β → α → Prop} {β' α' : Type} {R1' : List (List Addr) → Hp → β' → α' → Prop} {R2 : List (List Addr) → Hp → δ → γ → Prop} {f : En → M α} {g : En → M α'} {k : α → α' → En → M γ} {Q : δ → Hp → Prop}
    (up : ∀ {L L' : List (List Addr)} {G G' : Hp} {v : β} {a : α}, R1 L G v a → LE L L' → Same G G' → R1 L' G' v a)
    (h : tG c W R2 (fun ρ => f ρ >>= fun a => g ρ >>= fun b => k a b ρ) σ H Q) :
    tG c W R1 f σ H fun v H1 => tG c W R1' g σ H1 fun u H2 => ∃ e L T G ρ a b, Sta c e L T G H2 σ ρ ∧ R1 L G v a ∧ R1' L G u b ∧ PostG c e W σ ρ R2 L G (k a b ρ T) Q := by
  have q := tG.one (R1 := R1) (k := fun a ρ => g ρ >>= fun b => k a b ρ) h
  obtain ⟨e, L, T, G, ρ, S, p⟩ := q
  refine ⟨e, L, T, G, ρ, S, ?_⟩
  generalize f ρ T = r at p ⊢
  cases r with
  | bad => exact p
  | exn k T' => exact p
  | ok a T' =>
    intro v L' G' H' h1 h2 S' r
    obtain ⟨e1, L1, T1, G1, ρ1, a1, S1, r1, p1⟩ := p v L' G' H' h1 h2 S' r
    refine ⟨e1, L1, T1, G1, ρ1, S1, ?_⟩
    have p2 := PostG.then (R1 := R1') p1
    generalize g ρ1 T1 = r' at p2 ⊢
    cases r' with
    | bad => exact p2
    | exn k T' => exact p2
    | ok b T2 =>
      intro u L2 G2 H2 h3 h4 S2 r2
      obtain ⟨L3, T3, G3, b3, h5, h6, S3, r3, e3, p3⟩ := p2 u L2 G2 H2 h3 h4 S2 r2
      exact ⟨e1, L3, T3, G3, ρ1, a1, b3, S3, up r1 h5 h6, r3, p3⟩
end
section
variable {X : Cx}
theorem _root_.L2.PE.imp {e : Expr} {t t' : TE} (h : PE X e t) (i : ∀ σ H Q, t' σ H Q → t σ H Q) : PE X e t' := ⟨fun pins s σ H Q I q => h.run pins s σ H Q I (i σ H Q q)⟩
theorem _root_.L2.PT.imp {e : Expr} {t t' : TT} (h : PT X e t) (i : ∀ σ H Q, t' σ H Q → t σ H Q) : PT X e t' := ⟨fun pins s σ H Q I q => h.run pins s σ H Q I (i σ H Q q)⟩
theorem _root_.L2.PW.imp {e : Expr} {t t' : TT} (h : PW X e t) (i : ∀ σ H Q, t' σ H Q → t σ H Q) : PW X e t' := ⟨fun wh pins s σ H Q I q => h.run wh pins s σ H Q I (i σ H Q q)⟩
theorem _root_.L2.PA.imp {es : List Expr} {t t' : TA} (h : PA X es t) (i : ∀ σ H Q, t' σ H Q → t σ H Q) : PA X es t' := ⟨fun pos pins s σ H Q I q => h.run pos pins s σ H Q I (i σ H Q q)⟩
theorem _root_.L2.PS.imp {st : Stmt} {t t' : TS} (h : PS X st t) (i : ∀ D σ H, t' D σ H → t D σ H) : PS X st t' := ⟨fun pins s σ H D I q => h.run pins s σ H D I (i D σ H q)⟩
theorem _root_.L2.PSs.imp {st : List Stmt} {t t' : TS} (h : PSs X st t) (i : ∀ D σ H, t' D σ H → t D σ H) : PSs X st t' := ⟨fun pins s σ H D I q => h.run pins s σ H D I (i D σ H q)⟩
end
structure BL (mg : Str → Option Value) : Prop where
  len : mg "len" = none
  isi : mg "isinstance" = none
  all : mg "all" = none
  any : mg "any" = none
  sorted : mg "sorted" = none
  range : mg "range" = none
  list : mg "list" = none
  tuple : mg "tuple" = none
  int : mg "int" = none
  str : mg "str" = none
  bool : mg "bool" = none
  enum : mg "enumerate" = none
  zip : mg "zip" = none
  max : mg "max" = none
  min : mg "min" = none
  sum : mg "sum" = none
  set : mg "set" = none
  dict : mg "dict" = none
  ve : mg "ValueError" = none
structure Ctx (X : Cx) (c : Cfg) (W : WX) (k : Nat) : Prop where
  hP : X.prog = c.P
  hw : X.w = c.w
  hK : X.K = c.K
  calm : X.calm = true
  nd : X.N.Nodup
  room : Room k X.A
  tk : Takes X W
  bl : BL X.mg
def dC (d : D) : Ex := fun _ => M.ret d
def dVar (i : Nat) : Ex := fun ρ => match ρ[i]? with
  | some (some (.d x)) => M.ret x
  | _ => M.fail
def d1 (op : D → M D) (a : Ex) : Ex := fun ρ => a ρ >>= op
def d2 (op : D → D → M D) (a b : Ex) : Ex := fun ρ => a ρ >>= fun x => b ρ >>= fun y => op x y
def dArgs : List Ex → En → M (List D)
  | [] => fun _ => M.ret []
  | a :: r => fun ρ => a ρ >>= fun x => dArgs r ρ >>= fun xs => M.ret (x :: xs)
def dCall (F : List D → M D) (as : List Ex) : Ex := fun ρ => dArgs as ρ >>= F
section
variable {X : Cx} {c : Cfg} {W : WX} {k : Nat} {a b : Expr} {fa fb : Ex} {pos : Pos}
theorem de_int {i : Int} {j : Nat} : PE X (.Constant (.int i) j pos) (tD c W (dC (.int i))) := pe_int.imp fun σ H Q ⟨e, L, T, G, ρ, S, p⟩ => p _ L G H (LE.refl _) (Same.refl _) S (.int i)
theorem de_bl {i : Bool} {j : Nat} : PE X (.Constant (.bool i) j pos) (tD c W (dC (.bl i))) := pe_bl.imp fun σ H Q ⟨e, L, T, G, ρ, S, p⟩ => p _ L G H (LE.refl _) (Same.refl _) S (.bl i)
theorem de_non {j : Nat} : PE X (.Constant .none j pos) (tD c W (dC .non)) := pe_non.imp fun σ H Q ⟨e, L, T, G, ρ, S, p⟩ => p _ L G H (LE.refl _) (Same.refl _) S .non
theorem de_str {s : Str} {j : Nat} (hs : PyData.strOk s = true := by decide +kernel) : PE X (.Constant (.str s) j pos) (tD c W (dC (.str s))) := pe_str.imp fun σ H Q ⟨e, L, T, G, ρ, S, p⟩ => p _ L G H (LE.refl _) (Same.refl _) S (.str s hs)
theorem de_var (i : Nat) {x : Str} (hN : X.N[i]? = some x := by rfl) (hv : Vis X.env.scope x := by first | exact Or.inl rfl | exact Or.inr (Or.inl rfl) | exact Or.inr (Or.inr rfl)) (hd : (x == ("__debug__" : Str)) = false := by decide)
    (hcd : (x == ("__classdict__" : Str)) = false := by decide) : PE X (.Name x pos) (tD c W (dVar i)) := by
  refine (pe_var hN hv hd hcd).imp fun σ H Q ⟨e, L, T, G, ρ, S, p⟩ => ?_
  rcases h : ρ[i]? with _ | _ | sv
  · simp only [dVar, h] at p; exact p.elim
  · simp only [dVar, h] at p; exact p.elim
  · cases sv with
    | d x =>
      simp only [dVar, h] at p
      obtain ⟨v, h1, h2⟩ := S.slot i _ h
      exact ⟨v, h1, p v L G H (LE.refl _) (Same.refl _) S h2⟩
    | ol x => simp only [dVar, h] at p; exact p.elim
    | od x y => simp only [dVar, h] at p; exact p.elim
/-- an operation on two values, as one on data -/
def Op2 (c : Cfg) (r : R2) (op : D → D → M D) : Prop := ∀ (e : Gh) (W : WX) (L : List (List Addr)) (T : List Cell) (G H : Hp) (σ : L2.St) (ρ : En) (x y : V) (a b : D) (Q : VK), Sta c e L T G H σ ρ → Rep c L G x a → Rep c L G y b →
  PostG c e W σ ρ (Rep c) L G (op a b T) Q → r x y H Q
theorem Op2.or {r r' : R2} {op : D → D → M D} (h : Op2 c r op) : Op2 c (fun x y H Q => r x y H Q ∨ r' x y H Q) op := fun e W L T G H σ ρ x y a b Q S rx ry p => .inl (h e W L T G H σ ρ x y a b Q S rx ry p)
theorem de_op {op : Operator} {r : R2} {f : D → D → M D} (ho : OpR X (binaryOp op) r) (h : Op2 c r f) (ha : PE X a (tD c W fa)) (hb : PE X b (tD c W fb)) : PE X (.BinOp a op b pos) (tD c W (d2 f fa fb)) := by
  refine (pe_op ho ha hb).imp fun σ H Q q => (tG.two (R1 := Rep c) (R1' := Rep c) Rep.up q).mono fun v H1 q1 => q1.mono fun u H2 q2 => ?_
  obtain ⟨e, L, T, G, ρ, a, b, S, r1, r2, p⟩ := q2
  exact h e W L T G H2 σ ρ v u a b Q S r1 r2 p
end
end WW
set_option maxHeartbeats 1000000
namespace WW
open PySem PySem.Spec PyProof.Rows L2
mutual
def toPy : D → PyData
  | .non => .none
  | .bl b => .bool b
  | .int i => .int i
  | .str s => .str s
  | .lst xs => .list (toPys xs)
  | .tup xs => .tuple (toPys xs)
  | _ => .dict []
def toPys : List D → List PyData
  | [] => []
  | d :: ds => toPy d :: toPys ds
end
mutual
/-- plain to that depth -/
def okD : D → Nat → Bool
  | .non, _ | .bl _, _ | .int _, _ | .str _, _ => true
  | .lst xs, n => (match n with
    | 0 => false
    | n + 1 => okDs xs n)
  | .tup xs, n => (match n with
    | 0 => false
    | n + 1 => okDs xs n)
  | _, _ => false
def okDs : List D → Nat → Bool
  | [], _ => true
  | d :: ds, n => okD d n && okDs ds n
end
mutual
/-- == of data -/
def eqB : D → D → Bool
  | .non, .non => true
  | .bl a, .bl b => a == b
  | .bl a, .int j => (if a then 1 else 0) == j
  | .int i, .bl b => i == (if b then 1 else 0)
  | .int i, .int j => i == j
  | .str x, .str y => x == y
  | .lst xs, .lst ys => eqBs xs ys
  | .tup xs, .tup ys => eqBs xs ys
  | _, _ => false
def eqBs : List D → List D → Bool
  | [], [] => true
  | x :: xs, y :: ys => eqB x y && eqBs xs ys
  | _, _ => false
end
theorem toPys_map : ∀ ds : List D, toPys ds = ds.map toPy
  | [] => rfl
  | d :: ds => by rw [toPys, toPys_map ds]; rfl
mutual
theorem eqv_toPy : ∀ (x y : D) (m n : Nat), okD x m = true → okD y n = true → PyData.eqv (toPy x) (toPy y) = eqB x y
  | .non, y, _, _, _, h => by cases y <;> first | rfl | simp [okD] at h
  | .bl a, y, _, _, _, h => by cases y <;> first | rfl | simp [okD] at h
  | .int a, y, _, _, _, h => by cases y <;> first | rfl | simp [okD] at h
  | .str a, y, _, _, _, h => by cases y <;> first | rfl | simp [okD] at h
  | .lst xs, y, m, n, hx, h => by
    cases y with
    | lst ys =>
      cases m with
      | zero => simp [okD] at hx
      | succ m =>
        cases n with
        | zero => simp [okD] at h
        | succ n =>
          simp only [okD] at hx h
          simp only [toPy, PyData.eqv, eqB]
          exact eqv_toPys xs ys m n hx h
    | _ => first | rfl | simp [okD] at h
  | .tup xs, y, m, n, hx, h => by
    cases y with
    | tup ys =>
      cases m with
      | zero => simp [okD] at hx
      | succ m =>
        cases n with
        | zero => simp [okD] at h
        | succ n =>
          simp only [okD] at hx h
          simp only [toPy, PyData.eqv, eqB]
          exact eqv_toPys xs ys m n hx h
    | _ => first | rfl | simp [okD] at h
  | .dct _ _, _, _, _, h, _ => by simp [okD] at h
  | .exc _, _, _, _, h, _ => by simp [okD] at h
  | .cell _, _, _, _, h, _ => by simp [okD] at h
theorem eqv_toPys : ∀ (xs ys : List D) (m n : Nat), okDs xs m = true → okDs ys n = true → PyData.eqvAll (toPys xs) (toPys ys) = eqBs xs ys
  | [], [], _, _, _, _ => rfl
  | [], _ :: _, _, _, _, _ => rfl
  | _ :: _, [], _, _, _, _ => rfl
  | x :: xs, y :: ys, m, n, hx, hy => by
    simp only [okDs, Bool.and_eq_true] at hx hy
    simp only [toPys, PyData.eqvAll, eqBs]
    rw [eqv_toPy x y m n hx.1 hy.1, eqv_toPys xs ys m n hx.2 hy.2]
end
section
variable {c : Cfg} {L : List (List Addr)} {G H : Hp}
/-- what is frozen stands in the heap -/
def Sub (G H : Hp) : Prop := ∀ a o, G a = some o → H a = some o ∨ (Lockable o ∧ ∃ ob, H a = some (.frz ob o))
theorem Sub.lst (s : Sub G H) {a : Addr} {vs : List V} (h : G a = some (.lst vs)) : H a = some (.lst vs) := by
  rcases s a _ h with z | ⟨z, _⟩
  · exact z
  · exact z.elim
theorem Sub.sqT (s : Sub G H) {K : PySem.W.Frag} {a : Addr} {vs : List V} (h : SqT K G a vs) : SqT K H a vs := by
  rcases h with (h | ⟨o, h⟩) | h
  · rcases s a _ h with z | ⟨z, _⟩
    · exact .inl (.inl z)
    · exact z.elim
  · rcases s a _ h with z | ⟨z, _⟩
    · exact .inl (.inr ⟨o, z⟩)
    · exact z.elim
  · exact .inr h
mutual
theorem rep_dp (s : Sub G H) : ∀ (d : D) (v : V) (n : Nat), Rep c L G v d → okD d n = true → Dp c.K H v (toPy d) ∧ (toPy d).canLay0 = true ∧ (toPy d).depth ≤ n
  | .non, _, n, h, _ => by cases h; exact ⟨.non, rfl, Nat.zero_le _⟩
  | .bl b, _, n, h, _ => by cases h; exact ⟨.bl b, rfl, Nat.zero_le _⟩
  | .int b, _, n, h, _ => by cases h; exact ⟨.int b, rfl, Nat.zero_le _⟩
  | .str b, _, n, h, _ => by
    cases h with
    | str _ h1 => exact ⟨.str b, by simp only [toPy, PyData.canLay0]; exact h1, by simp only [toPy, PyData.depth]; exact Nat.zero_le _⟩
  | .lst ds, _, n, h, k => by
    cases h with
    | lst h1 h2 h3 =>
      cases n with
      | zero => simp [okD] at k
      | succ n =>
        simp only [okD] at k
        obtain ⟨q1, q2, q3⟩ := rep_dps s ds _ n h2 k
        exact ⟨.lst (.of (s.lst h1)) q1, by simp only [toPy, PyData.canLay0]; exact q2, by simp only [toPy, PyData.depth]; omega⟩
  | .tup ds, _, n, h, k => by
    cases h with
    | tup h1 h2 h3 =>
      cases n with
      | zero => simp [okD] at k
      | succ n =>
        simp only [okD] at k
        obtain ⟨q1, q2, q3⟩ := rep_dps s ds _ n h2 k
        exact ⟨.tup (s.sqT h1) q1, by simp only [toPy, PyData.canLay0]; exact q2, by simp only [toPy, PyData.depth]; omega⟩
  | .dct _ _, _, _, _, h => by simp [okD] at h
  | .exc _, _, _, _, h => by simp [okD] at h
  | .cell _, _, _, _, h => by simp [okD] at h
theorem rep_dps (s : Sub G H) : ∀ (ds : List D) (vs : List V) (n : Nat), RepL c L G vs ds → okDs ds n = true → DpAll c.K H vs (toPys ds) ∧ PyData.canLayAll0 (toPys ds) = true ∧ PyData.depthAll (toPys ds) ≤ n
  | [], _, n, h, _ => by cases h; exact ⟨.nil, rfl, Nat.zero_le _⟩
  | d :: ds, _, n, h, k => by
    cases h with
    | cons h1 h2 =>
      simp only [okDs, Bool.and_eq_true] at k
      obtain ⟨p1, p2, p3⟩ := rep_dp s d _ n h1 k.1
      obtain ⟨q1, q2, q3⟩ := rep_dps s ds _ n h2 k.2
      exact ⟨.cons p1 q1, by simp only [toPys, PyData.canLayAll0, Bool.and_eq_true]; exact ⟨p2, q2⟩, by simp only [toPys, PyData.depthAll]; omega⟩
end
theorem rep_shaped (s : Sub G H) {d : D} {v : V} (h : Rep c L G v d) (k : okD d 64 = true) : Dp c.K H v (toPy d) ∧ SeqAt.shaped (toPy d) = true := by
  obtain ⟨h1, h2, h3⟩ := rep_dp s d v 64 h k
  exact ⟨h1, by unfold SeqAt.shaped; rw [h2, decide_eq_true h3]; rfl⟩
end
def eqM (a b : D) : M D := if okD a 64 && okD b 64 then M.ret (.bl (eqB a b)) else M.fail
def neM (a b : D) : M D := if okD a 64 && okD b 64 then M.ret (.bl (!eqB a b)) else M.fail
def addM : D → D → M D
  | .int i, .int j => M.ret (.int (i + j))
  | .lst xs, .lst ys => if xs.length + ys.length ≤ sizeLine then M.ret (.lst (xs ++ ys)) else M.fail
  | .tup xs, .tup ys => if xs.length + ys.length ≤ sizeLine then M.ret (.tup (xs ++ ys)) else M.fail
  | _, _ => M.fail
def subM : D → D → M D
  | .int i, .int j => M.ret (.int (i - j))
  | _, _ => M.fail
def mulM : D → D → M D
  | .int i, .int j => if (-(2 ^ 64) < i ∧ i < 2 ^ 64) ∨ (-(2 ^ 64) < j ∧ j < 2 ^ 64) then M.ret (.int (i * j)) else M.fail
  | .lst xs, .int k => if (-(2 ^ 63) ≤ k ∧ k < 2 ^ 63) ∧ xs.length * k.toNat ≤ sizeLine then M.ret (.lst (List.replicate k.toNat xs).flatten) else M.fail
  | _, _ => M.fail
def modM : D → D → M D
  | .int i, .int j => if 0 < j then M.ret (.int (i % j)) else M.fail
  | _, _ => M.fail
def divM : D → D → M D
  | .int i, .int j => if 0 < j ∧ j < 1073741824 then M.ret (.int (i / j)) else M.fail
  | _, _ => M.fail
def powM : D → D → M D
  | .int i, .int j => if 0 ≤ j ∧ j ≤ 1000000 ∧ i.natAbs < 2 ^ 64 then M.ret (.int (i ^ j.toNat)) else M.fail
  | _, _ => M.fail
/-- ints alone -/
def intsOf : List D → Option (List Int)
  | [] => some []
  | .int i :: r => (intsOf r).map (i :: ·)
  | _ => none
theorem intsOf_some : ∀ {ds : List D} {ns : List Int}, intsOf ds = some ns → ds = ns.map .int
  | [], ns, h => by simp [intsOf] at h; subst h; rfl
  | d :: ds, ns, h => by
    cases d with
    | int i =>
      simp only [intsOf] at h
      cases q : intsOf ds with
      | none => rw [q] at h; simp at h
      | some r => rw [q] at h; simp at h; subst h; rw [intsOf_some q]; rfl
    | _ => simp [intsOf] at h
@[simp] theorem intsOf_map : ∀ ns : List Int, intsOf (ns.map .int) = some ns
  | [] => rfl
  | n :: ns => by simp [intsOf, intsOf_map ns]
def ltM : D → D → M D
  | .int i, .int j => M.ret (.bl (decide (i < j)))
  | .tup xs, .tup ys => (match intsOf xs, intsOf ys with
    | some a, some b => M.ret (.bl (HT.lexLt a b))
    | _, _ => M.fail)
  | _, _ => M.fail
def leM : D → D → M D
  | .int i, .int j => M.ret (.bl (decide (i ≤ j)))
  | _, _ => M.fail
def gtM : D → D → M D
  | .int i, .int j => M.ret (.bl (decide (j < i)))
  | _, _ => M.fail
def geM : D → D → M D
  | .int i, .int j => M.ret (.bl (decide (j ≤ i)))
  | _, _ => M.fail
def inM (neg : Bool) (x : D) : D → M D
  | .lst ys => if okD x 64 && okD (.lst ys) 64 then M.ret (.bl (xor neg (ys.any fun z => eqB z x))) else M.fail
  | .tup ys => if okD x 64 && okD (.tup ys) 64 then M.ret (.bl (xor neg (ys.any fun z => eqB z x))) else M.fail
  | _ => M.fail
def isNoneM (neg : Bool) : D → M D := fun d => M.ret (.bl (xor neg (match d with | .non => true | _ => false)))
def ixM : D → D → M D
  | .lst xs, .int i => M.ofO (atI xs i)
  | .tup xs, .int i => M.ofO (atI xs i)
  | _, _ => M.fail
def truM : D → M Bool
  | .non => M.ret false
  | .bl b => M.ret b
  | .int i => M.ret (i != 0)
  | .lst xs => M.ret (!xs.isEmpty)
  | .tup xs => M.ret (!xs.isEmpty)
  | _ => M.fail
/-- a truth value, no other -/
def blM : D → M Bool
  | .bl b => M.ret b
  | _ => M.fail
def isiD (T : String) : D → M D
  | .non => M.ret (.bl false)
  | .bl _ => M.ret (.bl (T == "int" || T == "bool"))
  | .int _ => M.ret (.bl (T == "int"))
  | .str _ => M.ret (.bl (T == "str"))
  | .lst _ => M.ret (.bl (T == "list"))
  | .tup _ => M.ret (.bl (T == "tuple"))
  | _ => M.fail
def lenM : D → M D
  | .lst xs => M.ret (.int xs.length)
  | .tup xs => M.ret (.int xs.length)
  | _ => M.fail
def blsOf : List D → Option (List Bool)
  | [] => some []
  | .bl i :: r => (blsOf r).map (i :: ·)
  | _ => none
theorem blsOf_some : ∀ {ds : List D} {ns : List Bool}, blsOf ds = some ns → ds = ns.map .bl
  | [], ns, h => by simp [blsOf] at h; subst h; rfl
  | d :: ds, ns, h => by
    cases d with
    | bl i =>
      simp only [blsOf] at h
      cases q : blsOf ds with
      | none => rw [q] at h; simp at h
      | some r => rw [q] at h; simp at h; subst h; rw [blsOf_some q]; rfl
    | _ => simp [blsOf] at h
@[simp] theorem blsOf_map : ∀ ns : List Bool, blsOf (ns.map .bl) = some ns
  | [] => rfl
  | n :: ns => by simp [blsOf, blsOf_map ns]
def allM : D → M D
  | .lst xs => (match blsOf xs with
    | some bs => M.ret (.bl (bs.all id))
    | none => M.fail)
  | _ => M.fail
def anyM : D → M D
  | .lst xs => (match blsOf xs with
    | some bs => M.ret (.bl (bs.any id))
    | none => M.fail)
  | _ => M.fail
def isort (ns : List Int) : List Int := ns.mergeSort (fun a b => decide (a ≤ b))
def tupleM : D → M D
  | .lst xs => M.ret (.tup xs)
  | .tup xs => M.ret (.tup xs)
  | _ => M.fail
end WW
set_option maxHeartbeats 1000000
namespace WW
open PySem PySem.Spec PyProof.Rows L2
section
variable {c : Cfg} {e : Gh} {W : WX} {σ : L2.St} {ρ : En} {L : List (List Addr)} {G H : Hp} {T : List Cell}
theorem Sta.subS (S : Sta c e L T G H σ ρ) : Sub G H := S.sub
theorem Sta.notcell0 (S : Sta c e L T G H σ ρ) {p : Addr} (hp : H p = none) : p ∉ e.L0.flatten := fun z => S.l0there p z hp
/-- a new object, frozen at once -/
theorem Sta.new (S : Sta c e L T G H σ ρ) {p : Addr} (hp : H p = none) (o : HO) : Sta c e L T (upd G p o) (upd H p o) σ ρ :=
  (S.grow hp).freeze upd_same (S.gnone hp) (S.notcell hp) (S.notcell0 hp) (S.h0none hp (S.notcell hp) (S.notcell0 hp)) (S.notx hp) (S.notslot hp)
theorem same_upd {G : Hp} {p : Addr} {o : HO} (h : G p = none) : Same G (upd G p o) := fun b u q => by rw [upd_ne (ne_of_none q h)]; exact q
/-- a plain value is handed on -/
theorem PostG.val {d : D} {v : V} {Q : VK} (p : PostG c e W σ ρ (Rep c) L G (M.ret d T) Q) (S : Sta c e L T G H σ ρ) (r : Rep c L G v d) : Q v H := p v L G H (LE.refl _) (Same.refl _) S r
/-- a new list is handed on, frozen -/
theorem PostG.newL {ds : List D} {vs : List V} {Q : VK} (p : PostG c e W σ ρ (Rep c) L G (M.ret (.lst ds) T) Q) (S : Sta c e L T G H σ ρ) (r : RepL c L G vs ds) (hz : ds.length ≤ sizeLine) :
    ∀ a, H a = none → Q (.ref a) (upd H a (.lst vs)) := fun a ha =>
  p _ L _ _ (LE.refl _) (same_upd (S.gnone ha)) (S.new ha _) (.lst upd_same (r.up (LE.refl _) (same_upd (S.gnone ha))) hz)
theorem PostG.newT {ds : List D} {vs : List V} {Q : VK} (p : PostG c e W σ ρ (Rep c) L G (M.ret (.tup ds) T) Q) (S : Sta c e L T G H σ ρ) (r : RepL c L G vs ds) (hz : ds.length ≤ sizeLine) :
    ∀ a, H a = none → Q (.ref a) (upd H a (.tup vs)) := fun a ha =>
  p _ L _ _ (LE.refl _) (same_upd (S.gnone ha)) (S.new ha _) (.tup (.of upd_same) (r.up (LE.refl _) (same_upd (S.gnone ha))) hz)
theorem PostG.bad {α β : Type} {R : List (List Addr) → Hp → β → α → Prop} {Q : β → Hp → Prop} {A : Prop} (p : PostG c e W σ ρ R L G Rs.bad Q) : A := False.elim p
end
section
variable {c : Cfg}
theorem op2_I {g : Int → Int → D} {g' : Int → Int → V} {f : D → D → M D} (h : ∀ i j, f (.int i) (.int j) = M.ret (g i j)) (hr : ∀ (L : List (List Addr)) (G : Hp) i j, Rep c L G (g' i j) (g i j))
    (hf : ∀ a b, (∀ i j, ¬ (a = .int i ∧ b = .int j)) → f a b = M.fail) : Op2 c (rI0 g') f := by
  intro e W L T G H σ ρ x y a b Q S rx ry p
  by_cases q : ∃ i j, a = .int i ∧ b = .int j
  · obtain ⟨i, j, rfl, rfl⟩ := q
    cases rx; cases ry
    rw [h] at p
    exact ⟨i, j, rfl, rfl, p.val S (hr _ _ i j)⟩
  · rw [hf a b fun i j z => q ⟨i, j, z⟩] at p
    exact p.bad
theorem op2_add : Op2 c (fun x y H Q => rI0 (fun i j => .int (i + j)) x y H Q ∨ rCat x y H Q ∨ rCatA c.K x y H Q) addM := by
  intro e W L T G H σ ρ x y a b Q S rx ry p
  cases a with
  | int i =>
    cases b with
    | int j =>
      cases rx; cases ry
      exact .inl ⟨i, j, rfl, rfl, p.val S (.int _)⟩
    | _ => exact p.bad
  | lst xs =>
    cases b with
    | lst ys =>
      cases rx with
      | @lst _ vs _ h1 h2 h3 =>
        cases ry with
        | @lst _ ws _ k1 k2 k3 =>
          simp only [addM] at p
          by_cases z : xs.length + ys.length ≤ sizeLine
          · rw [if_pos z] at p
            exact .inr (.inl ⟨_, _, vs, ws, rfl, rfl, S.subS.lst h1, S.subS.lst k1, by rw [h2.length, k2.length]; exact z, p.newL S (h2.append k2) (by rw [List.length_append]; exact z)⟩)
          · rw [if_neg z] at p
            exact p.bad
    | _ => exact p.bad
  | tup xs =>
    cases b with
    | tup ys =>
      have rx' := rx
      have ry' := ry
      cases rx with
      | @tup ax vs _ h1 h2 h3 =>
        cases ry with
        | @tup ay ws _ k1 k2 k3 =>
          simp only [addM] at p
          by_cases z : xs.length + ys.length ≤ sizeLine
          · rw [if_pos z] at p
            refine .inr (.inr ⟨ax, ay, vs, ws, rfl, rfl, S.subS.sqT h1, S.subS.sqT k1, by rw [h2.length, k2.length]; exact z, fun e => ?_, fun _ e => ?_, fun _ _ => p.newT S (h2.append k2) (by rw [List.length_append]; exact z)⟩)
            · subst e
              cases h2
              exact p.val S ry'
            · subst e
              cases k2
              rw [List.append_nil] at p
              exact p.val S rx'
          · rw [if_neg z] at p
            exact p.bad
    | _ => exact p.bad
  | _ => exact p.bad
theorem op2_sub : Op2 c (rI0 fun i j => .int (i - j)) subM := op2_I (g := fun i j => .int (i - j)) (fun _ _ => rfl) (fun _ _ _ _ => .int _) fun a b h => by
  cases a <;> first | rfl | (cases b <;> first | rfl | exact absurd ⟨rfl, rfl⟩ (h _ _))
theorem op2_mod : Op2 c (rI (fun _ j => 0 < j) fun i j => .int (i % j)) modM := by
  intro e W L T G H σ ρ x y a b Q S rx ry p
  cases a with
  | int i =>
    cases b with
    | int j =>
      cases rx; cases ry
      simp only [modM] at p
      by_cases z : 0 < j
      · rw [if_pos z] at p
        exact ⟨i, j, rfl, rfl, z, p.val S (.int _)⟩
      · rw [if_neg z] at p
        exact p.bad
    | _ => exact p.bad
  | _ => exact p.bad
theorem op2_div : Op2 c (rI CDiv fun i j => .int (i / j)) divM := by
  intro e W L T G H σ ρ x y a b Q S rx ry p
  cases a with
  | int i =>
    cases b with
    | int j =>
      cases rx; cases ry
      simp only [divM] at p
      by_cases z : 0 < j ∧ j < 1073741824
      · rw [if_pos z] at p
        exact ⟨i, j, rfl, rfl, z, p.val S (.int _)⟩
      · rw [if_neg z] at p
        exact p.bad
    | _ => exact p.bad
  | _ => exact p.bad
theorem op2_pow : Op2 c (rI CPow fun i j => .int (i ^ j.toNat)) powM := by
  intro e W L T G H σ ρ x y a b Q S rx ry p
  cases a with
  | int i =>
    cases b with
    | int j =>
      cases rx; cases ry
      simp only [powM] at p
      by_cases z : 0 ≤ j ∧ j ≤ 1000000 ∧ i.natAbs < 2 ^ 64
      · rw [if_pos z] at p
        exact ⟨i, j, rfl, rfl, z, p.val S (.int _)⟩
      · rw [if_neg z] at p
        exact p.bad
    | _ => exact p.bad
  | _ => exact p.bad
theorem repL_rep {L : List (List Addr)} {G : Hp} {vs : List V} {ds : List D} (h : RepL c L G vs ds) : ∀ k : Nat, RepL c L G (List.replicate k vs).flatten (List.replicate k ds).flatten
  | 0 => .nil
  | k + 1 => by
    rw [List.replicate_succ, List.replicate_succ, List.flatten_cons, List.flatten_cons]
    exact h.append (repL_rep h k)
theorem len_rep {α : Type} (xs : List α) : ∀ k : Nat, (List.replicate k xs).flatten.length = xs.length * k
  | 0 => rfl
  | k + 1 => by rw [List.replicate_succ, List.flatten_cons, List.length_append, len_rep xs k, Nat.mul_succ, Nat.add_comm]
theorem op2_mul : Op2 c (fun x y H Q => rI CMul (fun i j => .int (i * j)) x y H Q ∨ rRep x y H Q) mulM := by
  intro e W L T G H σ ρ x y a b Q S rx ry p
  cases a with
  | int i =>
    cases b with
    | int j =>
      cases rx; cases ry
      simp only [mulM] at p
      by_cases z : (-(2 ^ 64) < i ∧ i < 2 ^ 64) ∨ (-(2 ^ 64) < j ∧ j < 2 ^ 64)
      · rw [if_pos z] at p
        exact .inl ⟨i, j, rfl, rfl, z, p.val S (.int _)⟩
      · rw [if_neg z] at p
        exact p.bad
    | _ => exact p.bad
  | lst xs =>
    cases b with
    | int k =>
      cases rx with
      | @lst ax vs _ h1 h2 h3 =>
        cases ry
        simp only [mulM] at p
        by_cases z : (-(2 ^ 63) ≤ k ∧ k < 2 ^ 63) ∧ xs.length * k.toNat ≤ sizeLine
        · rw [if_pos z] at p
          refine .inr ⟨ax, k, vs, rfl, rfl, S.subS.lst h1, z.1.1, z.1.2, by rw [h2.length]; exact z.2, p.newL S (repL_rep h2 _) ?_⟩
          rw [len_rep]; exact z.2
        · rw [if_neg z] at p
          exact p.bad
    | _ => exact p.bad
  | _ => exact p.bad
theorem and_split {a b : Bool} (h : (a && b) = true) : a = true ∧ b = true := by cases a <;> cases b <;> simp_all
theorem op2_eq : Op2 c (rEqD c.K) eqM := by
  intro e W L T G H σ ρ x y a b Q S rx ry p
  unfold eqM at p
  by_cases z : (okD a 64 && okD b 64) = true
  · rw [if_pos z] at p
    obtain ⟨za, zb⟩ := and_split z
    obtain ⟨h1, h2⟩ := rep_shaped S.subS rx za
    obtain ⟨k1, k2⟩ := rep_shaped S.subS ry zb
    refine ⟨toPy a, toPy b, h1, k1, h2, k2, ?_⟩
    rw [eqv_toPy a b 64 64 za zb]
    exact p.val S (.bl _)
  · rw [if_neg z] at p
    exact p.bad
theorem op2_ne : Op2 c (rNeD c.K) neM := by
  intro e W L T G H σ ρ x y a b Q S rx ry p
  unfold neM at p
  by_cases z : (okD a 64 && okD b 64) = true
  · rw [if_pos z] at p
    obtain ⟨za, zb⟩ := and_split z
    obtain ⟨h1, h2⟩ := rep_shaped S.subS rx za
    obtain ⟨k1, k2⟩ := rep_shaped S.subS ry zb
    refine ⟨toPy a, toPy b, h1, k1, h2, k2, ?_⟩
    rw [eqv_toPy a b 64 64 za zb]
    exact p.val S (.bl _)
  · rw [if_neg z] at p
    exact p.bad
theorem op2_lt : Op2 c (fun x y H Q => rI0 (fun i j => .bl (decide (i < j))) x y H Q ∨ rLtT c.K x y H Q) ltM := by
  intro e W L T G H σ ρ x y a b Q S rx ry p
  cases a with
  | int i =>
    cases b with
    | int j =>
      cases rx; cases ry
      exact .inl ⟨i, j, rfl, rfl, p.val S (.bl _)⟩
    | _ => exact p.bad
  | tup xs =>
    cases b with
    | tup ys =>
      cases rx with
      | @tup ax vs _ h1 h2 h3 =>
        cases ry with
        | @tup ay ws _ k1 k2 k3 =>
          simp only [ltM] at p
          cases q1 : intsOf xs with
          | none => rw [q1] at p; exact p.bad
          | some ns =>
            cases q2 : intsOf ys with
            | none => rw [q1, q2] at p; exact p.bad
            | some ms =>
              rw [q1, q2] at p
              have e1 := intsOf_some q1
              have e2 := intsOf_some q2
              subst e1 e2
              rw [h2.ints] at h1
              rw [k2.ints] at k1
              exact .inr ⟨ax, ay, ns, ms, rfl, rfl, S.subS.sqT h1, S.subS.sqT k1, p.val S (.bl _)⟩
    | _ => exact p.bad
  | _ => exact p.bad
theorem op2_le : Op2 c (rI0 fun i j => .bl (decide (i ≤ j))) leM := op2_I (g := fun i j => .bl (decide (i ≤ j))) (fun _ _ => rfl) (fun _ _ _ _ => .bl _) fun a b h => by
  cases a <;> first | rfl | (cases b <;> first | rfl | exact absurd ⟨rfl, rfl⟩ (h _ _))
theorem op2_gt : Op2 c (rI0 fun i j => .bl (decide (j < i))) gtM := op2_I (g := fun i j => .bl (decide (j < i))) (fun _ _ => rfl) (fun _ _ _ _ => .bl _) fun a b h => by
  cases a <;> first | rfl | (cases b <;> first | rfl | exact absurd ⟨rfl, rfl⟩ (h _ _))
theorem op2_ge : Op2 c (rI0 fun i j => .bl (decide (j ≤ i))) geM := op2_I (g := fun i j => .bl (decide (j ≤ i))) (fun _ _ => rfl) (fun _ _ _ _ => .bl _) fun a b h => by
  cases a <;> first | rfl | (cases b <;> first | rfl | exact absurd ⟨rfl, rfl⟩ (h _ _))
end
def rInS (K : PySem.W.Frag) (neg : Bool) : R2 := fun x y H Q => ∃ d ds, Dp K H x d ∧ (Dp K H y (.list ds) ∨ Dp K H y (.tuple ds)) ∧ SeqAt.shaped d = true ∧ PyData.canLayAll0 ds = true ∧ Q (.bl (xor neg (ds.any fun z => PyData.eqv z d))) H
theorem op_inS {X : Cx} (hu : X.A.units + 65 < cLine) : OpR X (compareOp .In) (rInS X.K false) := by
  intro pins s σ H x y v u Q I rx ry h
  obtain ⟨d, ds, hd, he, sd, se, q⟩ := h
  rw [Bool.false_xor] at q
  obtain ⟨as, r1⟩ := Dp.reads I d x v hd rx
  rcases he with he | he
  · obtain ⟨bs, r2⟩ := Dp.reads I _ y u he ry
    exact SeqAt.in_list_reads r2 r1 se (SeqAt.canLay_of_shaped sd) (room_in_shaped sd hu) ⟨.bl _, H, I, rfl, q⟩
  · obtain ⟨bs, r2⟩ := Dp.reads I _ y u he ry
    exact SeqAt.in_tuple_reads r2 r1 se (SeqAt.canLay_of_shaped sd) (room_in_shaped sd hu) ⟨.bl _, H, I, rfl, q⟩
theorem op_notInS {X : Cx} (hu : X.A.units + 65 < cLine) : OpR X (compareOp .NotIn) (rInS X.K true) := by
  intro pins s σ H x y v u Q I rx ry h
  obtain ⟨d, ds, hd, he, sd, se, q⟩ := h
  rw [Bool.true_xor] at q
  obtain ⟨as, r1⟩ := Dp.reads I d x v hd rx
  rcases he with he | he
  · obtain ⟨bs, r2⟩ := Dp.reads I _ y u he ry
    exact SeqAt.notIn_list_reads r2 r1 se (SeqAt.canLay_of_shaped sd) (room_in_shaped sd hu) ⟨.bl _, H, I, rfl, q⟩
  · obtain ⟨bs, r2⟩ := Dp.reads I _ y u he ry
    exact SeqAt.notIn_tuple_reads r2 r1 se (SeqAt.canLay_of_shaped sd) (room_in_shaped sd hu) ⟨.bl _, H, I, rfl, q⟩
section
variable {c : Cfg}
theorem any_toPy {x : D} (hx : okD x 64 = true) : ∀ {ys : List D} {n : Nat}, okDs ys n = true → ((toPys ys).any fun z => PyData.eqv z (toPy x)) = ys.any fun z => eqB z x
  | [], _, _ => rfl
  | y :: ys, n, h => by
    simp only [okDs, Bool.and_eq_true] at h
    simp only [toPys, List.any_cons]
    rw [eqv_toPy y x n 64 h.1 hx, any_toPy hx h.2]
theorem op2_in (neg : Bool) : Op2 c (rInS c.K neg) (inM neg) := by
  intro e W L T G H σ ρ x y a b Q S rx ry p
  cases b with
  | lst ys =>
    simp only [inM] at p
    by_cases z : (okD a 64 && okD (.lst ys) 64) = true
    · rw [if_pos z] at p
      obtain ⟨za, zb⟩ := and_split z
      obtain ⟨h1, h2⟩ := rep_shaped S.subS rx za
      obtain ⟨k1, k2⟩ := rep_shaped S.subS ry zb
      have k3 := SeqAt.canLay_of_shaped k2
      simp only [toPy, PyData.canLay0] at k3
      simp only [okD] at zb
      refine ⟨toPy a, toPys ys, h1, .inl k1, h2, k3, ?_⟩
      rw [any_toPy za zb]
      exact p.val S (.bl _)
    · rw [if_neg z] at p
      exact p.bad
  | tup ys =>
    simp only [inM] at p
    by_cases z : (okD a 64 && okD (.tup ys) 64) = true
    · rw [if_pos z] at p
      obtain ⟨za, zb⟩ := and_split z
      obtain ⟨h1, h2⟩ := rep_shaped S.subS rx za
      obtain ⟨k1, k2⟩ := rep_shaped S.subS ry zb
      have k3 := SeqAt.canLay_of_shaped k2
      simp only [toPy, PyData.canLay0] at k3
      simp only [okD] at zb
      refine ⟨toPy a, toPys ys, h1, .inr k1, h2, k3, ?_⟩
      rw [any_toPy za zb]
      exact p.val S (.bl _)
    · rw [if_neg z] at p
      exact p.bad
  | _ => exact p.bad
theorem op2_ix : Op2 c (fun x y H Q => rIxL c.K x y H Q ∨ rIxT c.K x y H Q) ixM := by
  intro e W L T G H σ ρ x y a b Q S rx ry p
  cases a with
  | lst xs =>
    cases b with
    | int i =>
      cases rx with
      | @lst ax vs _ h1 h2 h3 =>
        cases ry
        simp only [ixM] at p
        cases q : atI xs i with
        | none => rw [q] at p; exact p.bad
        | some d =>
          rw [q] at p
          have q' := q
          unfold atI at q'
          cases q2 : ixN xs.length i with
          | none => rw [q2] at q'; cases q'
          | some j =>
            rw [q2] at q'
            obtain ⟨v, hv, rv⟩ := h2.get (i := j) q'
            refine .inl ⟨ax, vs, i, v, rfl, rfl, .of (S.subS.lst h1), ?_, p.val S rv⟩
            unfold atI
            rw [h2.length, q2]
            exact hv
    | _ => exact p.bad
  | tup xs =>
    cases b with
    | int i =>
      cases rx with
      | @tup ax vs _ h1 h2 h3 =>
        cases ry
        simp only [ixM] at p
        cases q : atI xs i with
        | none => rw [q] at p; exact p.bad
        | some d =>
          rw [q] at p
          have q' := q
          unfold atI at q'
          cases q2 : ixN xs.length i with
          | none => rw [q2] at q'; cases q'
          | some j =>
            rw [q2] at q'
            obtain ⟨v, hv, rv⟩ := h2.get (i := j) q'
            refine .inr ⟨ax, vs, i, v, rfl, rfl, S.subS.sqT h1, ?_, p.val S rv⟩
            unfold atI
            rw [h2.length, q2]
            exact hv
    | _ => exact p.bad
  | _ => exact p.bad
end
end WW
set_option maxHeartbeats 1000000
namespace WW
open PySem PySem.Spec PyProof.Rows L2
abbrev Tx := En → M Bool
def tVal (f : Ex) : Tx := fun ρ => f ρ >>= blM
def tTru (f : Ex) : Tx := fun ρ => f ρ >>= truM
def tNotX (f : Tx) : Tx := fun ρ => f ρ >>= fun b => M.ret (!b)
def tAndX (f g : Tx) : Tx := fun ρ => f ρ >>= fun b => if b = true then g ρ else M.ret false
def tOrX (f g : Tx) : Tx := fun ρ => f ρ >>= fun b => if b = true then M.ret true else g ρ
def dNot (f : Ex) : Ex := fun ρ => f ρ >>= blM >>= fun b => M.ret (.bl (!b))
def dAnd (f g : Ex) : Ex := fun ρ => f ρ >>= blM >>= fun b => if b = true then g ρ else M.ret (.bl false)
def dOr (f g : Ex) : Ex := fun ρ => f ρ >>= blM >>= fun b => if b = true then M.ret (.bl true) else g ρ
def dIf (t : Tx) (f g : Ex) : Ex := fun ρ => t ρ >>= fun b => if b = true then f ρ else g ρ
/-- a op b op' c -/
def dChain (o o' : D → D → M D) (f g h : Ex) : Ex := fun ρ => f ρ >>= fun x => g ρ >>= fun y => o x y >>= blM >>= fun b => if b = true then h ρ >>= fun z => o' y z else M.ret (.bl false)
def dTup (as : List Ex) : Ex := fun ρ => dArgs as ρ >>= fun xs => if xs.length ≤ sizeLine then M.ret (.tup xs) else M.fail
/-- a new list that only the taker knows -/
abbrev Ox := En → M (List D)
def oLst (as : List Ex) : Ox := fun ρ => dArgs as ρ >>= fun xs => if xs.length ≤ sizeLine then M.ret xs else M.fail
def dOwn (f : Ox) : Ex := fun ρ => f ρ >>= fun xs => M.ret (.lst xs)
structure FreshL (c : Cfg) (e : Gh) (L : List (List Addr)) (G H : Hp) (σ : L2.St) (ρ : En) (p : Addr) (ds : List D) : Prop where
  at_ : ∃ vs, H p = some (.lst vs) ∧ RepL c L G vs ds ∧ ds.length ≤ sizeLine
  g : G p = none
  l : p ∉ L.flatten
  l0 : p ∉ e.L0.flatten
  h0 : e.H0 p = none
  xo : ∀ q ∈ e.xo, q.1 ≠ p
  sl : ∀ (i : Nat) (sv : SV), ρ[i]? = some (some sv) → Own sv → σ[i]? ≠ some (some (.ref p))
/-- like tD, of a new list -/
def tO (c : Cfg) (W : WX) (f : Ox) : TE := fun σ H Q => ∃ e L T G ρ, Sta c e L T G H σ ρ ∧
  match f ρ T with
  | .ok ds T' => ∀ p L' G' H', LE L L' → Same G G' → Sta c e L' T' G' H' σ ρ → FreshL c e L' G' H' σ ρ p ds → Q (.ref p) H'
  | .exn k T' => ∀ L' G' H', LE L L' → Same G G' → Sta c e L' T' G' H' σ ρ → W (.ref (c.CA k)) none σ H'
  | .bad => False
theorem tO_eq {c : Cfg} {W : WX} {f : Ox} {σ : L2.St} {H : Hp} {Q : VK} : tO c W f σ H Q ↔ ∃ e L T G ρ, Sta c e L T G H σ ρ ∧
  match f ρ T with
  | .ok ds T' => ∀ p L' G' H', LE L L' → Same G G' → Sta c e L' T' G' H' σ ρ → FreshL c e L' G' H' σ ρ p ds → Q (.ref p) H'
  | .exn k T' => ∀ L' G' H', LE L L' → Same G G' → Sta c e L' T' G' H' σ ρ → W (.ref (c.CA k)) none σ H'
  | .bad => False := Iff.rfl
section
variable {X : Cx} {c : Cfg} {W : WX} {k : Nat} {a b cc : Expr} {fa fb fc : Ex} {ta tb : Tx} {pos : Pos}
theorem Ctx.units (h : Ctx X c W k) : X.A.units + 65 < cLine := by
  have := h.room.un
  omega
theorem de_add (h : Ctx X c W k) (ha : PE X a (tD c W fa)) (hb : PE X b (tD c W fb)) : PE X (.BinOp a .Add b pos) (tD c W (d2 addM fa fb)) :=
  de_op (OpR.or op_add (OpR.or op_cat (h.hK ▸ op_catA))) op2_add ha hb
theorem de_sub (ha : PE X a (tD c W fa)) (hb : PE X b (tD c W fb)) : PE X (.BinOp a .Sub b pos) (tD c W (d2 subM fa fb)) := de_op op_sub op2_sub ha hb
theorem de_mul (ha : PE X a (tD c W fa)) (hb : PE X b (tD c W fb)) : PE X (.BinOp a .Mult b pos) (tD c W (d2 mulM fa fb)) := de_op (OpR.or op_mul op_rep) op2_mul ha hb
theorem de_mod (ha : PE X a (tD c W fa)) (hb : PE X b (tD c W fb)) : PE X (.BinOp a .Mod b pos) (tD c W (d2 modM fa fb)) := de_op op_mod op2_mod ha hb
theorem de_div (ha : PE X a (tD c W fa)) (hb : PE X b (tD c W fb)) : PE X (.BinOp a .FloorDiv b pos) (tD c W (d2 divM fa fb)) := de_op op_fdiv op2_div ha hb
theorem de_pow (ha : PE X a (tD c W fa)) (hb : PE X b (tD c W fb)) : PE X (.BinOp a .Pow b pos) (tD c W (d2 powM fa fb)) := de_op op_pow op2_pow ha hb
theorem de_cmp {op : CmpOp} {r : R2} {f : D → D → M D} (ho : OpR X (compareOp op) r) (h : Op2 c r f) (hm : behindInMarks op b = false) (ha : PE X a (tD c W fa)) (hb : PE X b (tD c W fb)) : PE X (.Compare a [op] [b] pos) (tD c W (d2 f fa fb)) := by
  refine (pe_cmpR ho ha hb hm).imp fun σ H Q q => (tG.two (R1 := Rep c) (R1' := Rep c) Rep.up q).mono fun v H1 q1 => q1.mono fun u H2 q2 => ?_
  obtain ⟨e, L, T, G, ρ, a, b, S, r1, r2, p⟩ := q2
  exact h e W L T G H2 σ ρ v u a b Q S r1 r2 p
/-- the end of a test by value -/
theorem test_end {e : Gh} {σ : L2.St} {ρ : En} {L : List (List Addr)} {G : Hp} {T : List Cell} {Q : Bool → Hp → Prop} {x : M D} (p : PostG c e W σ ρ (fun _ _ (b b' : Bool) => b = b') L G ((x >>= blM) T) Q) :
    PostG c e W σ ρ (Rep c) L G (x T) fun x H' => ∃ k, x = .bl k ∧ Q k H' := by
  refine (PostG.then (R1 := Rep c) p).mono fun v H1 q => ?_
  obtain ⟨L1, T1, G1, a, h1, h2, S, r, e1, p1⟩ := q
  cases a with
  | bl z =>
    cases r
    exact ⟨z, rfl, p1 z L1 G1 H1 (LE.refl _) (Same.refl _) S rfl⟩
  | _ => exact p1.bad
theorem dt_cmp {op : CmpOp} {r : R2} {f : D → D → M D} (ho : OpR X (compareOp op) r) (h : Op2 c r f) (hm : behindInMarks op b = false) (ha : PE X a (tD c W fa)) (hb : PE X b (tD c W fb)) : PT X (.Compare a [op] [b] pos) (tT c W (tVal (d2 f fa fb))) := by
  refine (pt_cmpR ho ha hb hm).imp fun σ H Q q => ?_
  have q' : tT c W (fun ρ => fa ρ >>= fun x => fb ρ >>= fun y => f x y >>= blM) σ H Q := by
    have e : (tVal (d2 f fa fb)) = fun ρ => fa ρ >>= fun x => fb ρ >>= fun y => f x y >>= blM := by
      funext ρ
      unfold tVal d2
      rw [bind_assoc']
      congr 1
      funext x
      rw [bind_assoc']
    rw [← e]; exact q
  refine (tG.two (R1 := Rep c) (R1' := Rep c) Rep.up q').mono fun v H1 q1 => q1.mono fun u H2 q2 => ?_
  obtain ⟨e, L, T, G, ρ, a, b, S, r1, r2, p⟩ := q2
  exact h e W L T G H2 σ ρ v u a b _ S r1 r2 (test_end p)
theorem nom (b : Expr) {op : CmpOp} (h : op ≠ .In := by decide) (h2 : op ≠ .NotIn := by decide) : behindInMarks op b = false := nomark b h h2
theorem de_eq (h : Ctx X c W k) (ha : PE X a (tD c W fa)) (hb : PE X b (tD c W fb)) : PE X (.Compare a [.Eq] [b] pos) (tD c W (d2 eqM fa fb)) := de_cmp (op_eqD (by have := h.units; omega)) (h.hK ▸ op2_eq) (nom b) ha hb
theorem de_ne (h : Ctx X c W k) (ha : PE X a (tD c W fa)) (hb : PE X b (tD c W fb)) : PE X (.Compare a [.NotEq] [b] pos) (tD c W (d2 neM fa fb)) := de_cmp (op_neD (by have := h.units; omega)) (h.hK ▸ op2_ne) (nom b) ha hb
theorem dt_eq (h : Ctx X c W k) (ha : PE X a (tD c W fa)) (hb : PE X b (tD c W fb)) : PT X (.Compare a [.Eq] [b] pos) (tT c W (tVal (d2 eqM fa fb))) := dt_cmp (op_eqD (by have := h.units; omega)) (h.hK ▸ op2_eq) (nom b) ha hb
theorem dt_ne (h : Ctx X c W k) (ha : PE X a (tD c W fa)) (hb : PE X b (tD c W fb)) : PT X (.Compare a [.NotEq] [b] pos) (tT c W (tVal (d2 neM fa fb))) := dt_cmp (op_neD (by have := h.units; omega)) (h.hK ▸ op2_ne) (nom b) ha hb
theorem opLt (h : Ctx X c W k) : OpR X (compareOp .Lt) (fun x y H Q => rI0 (fun i j => .bl (decide (i < j))) x y H Q ∨ rLtT c.K x y H Q) := OpR.or op_lt (h.hK ▸ op_ltT h.room.units0)
theorem de_lt (h : Ctx X c W k) (ha : PE X a (tD c W fa)) (hb : PE X b (tD c W fb)) : PE X (.Compare a [.Lt] [b] pos) (tD c W (d2 ltM fa fb)) := de_cmp (opLt h) op2_lt (nom b) ha hb
theorem dt_lt (h : Ctx X c W k) (ha : PE X a (tD c W fa)) (hb : PE X b (tD c W fb)) : PT X (.Compare a [.Lt] [b] pos) (tT c W (tVal (d2 ltM fa fb))) := dt_cmp (opLt h) op2_lt (nom b) ha hb
theorem de_le (ha : PE X a (tD c W fa)) (hb : PE X b (tD c W fb)) : PE X (.Compare a [.LtE] [b] pos) (tD c W (d2 leM fa fb)) := de_cmp op_le op2_le (nom b) ha hb
theorem dt_le (ha : PE X a (tD c W fa)) (hb : PE X b (tD c W fb)) : PT X (.Compare a [.LtE] [b] pos) (tT c W (tVal (d2 leM fa fb))) := dt_cmp op_le op2_le (nom b) ha hb
theorem de_gt (ha : PE X a (tD c W fa)) (hb : PE X b (tD c W fb)) : PE X (.Compare a [.Gt] [b] pos) (tD c W (d2 gtM fa fb)) := de_cmp op_gt op2_gt (nom b) ha hb
theorem dt_gt (ha : PE X a (tD c W fa)) (hb : PE X b (tD c W fb)) : PT X (.Compare a [.Gt] [b] pos) (tT c W (tVal (d2 gtM fa fb))) := dt_cmp op_gt op2_gt (nom b) ha hb
theorem de_ge (ha : PE X a (tD c W fa)) (hb : PE X b (tD c W fb)) : PE X (.Compare a [.GtE] [b] pos) (tD c W (d2 geM fa fb)) := de_cmp op_ge op2_ge (nom b) ha hb
theorem dt_ge (ha : PE X a (tD c W fa)) (hb : PE X b (tD c W fb)) : PT X (.Compare a [.GtE] [b] pos) (tT c W (tVal (d2 geM fa fb))) := dt_cmp op_ge op2_ge (nom b) ha hb
theorem de_in (h : Ctx X c W k) (ha : PE X a (tD c W fa)) (hb : PE X b (tD c W fb)) (hm : behindInMarks .In b = false := by rfl) : PE X (.Compare a [.In] [b] pos) (tD c W (d2 (inM false) fa fb)) := de_cmp (op_inS h.units) (h.hK ▸ op2_in false) hm ha hb
theorem dt_in (h : Ctx X c W k) (ha : PE X a (tD c W fa)) (hb : PE X b (tD c W fb)) (hm : behindInMarks .In b = false := by rfl) : PT X (.Compare a [.In] [b] pos) (tT c W (tVal (d2 (inM false) fa fb))) := dt_cmp (op_inS h.units) (h.hK ▸ op2_in false) hm ha hb
theorem de_nin (h : Ctx X c W k) (ha : PE X a (tD c W fa)) (hb : PE X b (tD c W fb)) (hm : behindInMarks .NotIn b = false := by rfl) : PE X (.Compare a [.NotIn] [b] pos) (tD c W (d2 (inM true) fa fb)) := de_cmp (op_notInS h.units) (h.hK ▸ op2_in true) hm ha hb
theorem dt_nin (h : Ctx X c W k) (ha : PE X a (tD c W fa)) (hb : PE X b (tD c W fb)) (hm : behindInMarks .NotIn b = false := by rfl) : PT X (.Compare a [.NotIn] [b] pos) (tT c W (tVal (d2 (inM true) fa fb))) := dt_cmp (op_notInS h.units) (h.hK ▸ op2_in true) hm ha hb
def isNon : D → Bool
  | .non => true
  | _ => false
def isM (neg : Bool) : D → D → M D
  | a, .non => M.ret (.bl (xor neg (isNon a)))
  | .bl x, .bl y => M.ret (.bl (xor neg (decide (x = y))))
  | _, _ => M.fail
theorem rep_none {L : List (List Addr)} {G : Hp} {v : V} {d : D} (h : Rep c L G v d) : decide (v = .non) = isNon d := by
  cases h <;> rfl
theorem op2_is : Op2 c (fun x y H Q => (y = .non ∧ Q (.bl (decide (x = .non))) H) ∨ (∃ a b, x = .bl a ∧ y = .bl b ∧ Q (.bl (decide (a = b))) H)) (isM false) := by
  intro e W L T G H σ ρ x y a b Q S rx ry p
  cases b with
  | non =>
    cases ry
    refine .inl ⟨rfl, ?_⟩
    rw [rep_none rx]
    have q := p.val S (v := .bl (xor false (isNon a))) (.bl _)
    rw [Bool.false_xor] at q
    exact q
  | bl y =>
    cases a with
    | bl x =>
      cases rx; cases ry
      refine .inr ⟨x, y, rfl, rfl, ?_⟩
      have q := p.val S (v := .bl (xor false (decide (x = y)))) (.bl _)
      rw [Bool.false_xor] at q
      exact q
    | _ => exact p.bad
  | _ => cases a <;> exact p.bad
theorem op2_isnot : Op2 c (fun x y H Q => (y = .non ∧ Q (.bl (!decide (x = .non))) H) ∨ (∃ a b, x = .bl a ∧ y = .bl b ∧ Q (.bl (!decide (a = b))) H)) (isM true) := by
  intro e W L T G H σ ρ x y a b Q S rx ry p
  cases b with
  | non =>
    cases ry
    refine .inl ⟨rfl, ?_⟩
    rw [rep_none rx]
    have q := p.val S (v := .bl (xor true (isNon a))) (.bl _)
    rw [Bool.true_xor] at q
    exact q
  | bl y =>
    cases a with
    | bl x =>
      cases rx; cases ry
      refine .inr ⟨x, y, rfl, rfl, ?_⟩
      have q := p.val S (v := .bl (xor true (decide (x = y)))) (.bl _)
      rw [Bool.true_xor] at q
      exact q
    | _ => exact p.bad
  | _ => cases a <;> exact p.bad
theorem de_is (ha : PE X a (tD c W fa)) (hb : PE X b (tD c W fb)) : PE X (.Compare a [.Is] [b] pos) (tD c W (d2 (isM false) fa fb)) := de_cmp (OpR.or op_isN op_is_bl) op2_is (nom b) ha hb
theorem dt_is (ha : PE X a (tD c W fa)) (hb : PE X b (tD c W fb)) : PT X (.Compare a [.Is] [b] pos) (tT c W (tVal (d2 (isM false) fa fb))) := dt_cmp (OpR.or op_isN op_is_bl) op2_is (nom b) ha hb
theorem de_isnot (ha : PE X a (tD c W fa)) (hb : PE X b (tD c W fb)) : PE X (.Compare a [.IsNot] [b] pos) (tD c W (d2 (isM true) fa fb)) := de_cmp (OpR.or op_notN op_isnot_bl) op2_isnot (nom b) ha hb
theorem dt_isnot (ha : PE X a (tD c W fa)) (hb : PE X b (tD c W fb)) : PT X (.Compare a [.IsNot] [b] pos) (tT c W (tVal (d2 (isM true) fa fb))) := dt_cmp (OpR.or op_notN op_isnot_bl) op2_isnot (nom b) ha hb
end
end WW
set_option maxHeartbeats 1000000
namespace WW
open PySem PySem.Spec PyProof.Rows L2
section
variable {X : Cx} {c : Cfg} {W : WX} {k : Nat} {a b cc : Expr} {fa fb fc : Ex} {ta tb : Tx} {pos : Pos} {rest : List Expr}
theorem tD_one {f : Ex} {g : D → M D} {σ : L2.St} {H : Hp} {Q : VK} (h : tD c W (fun ρ => f ρ >>= g) σ H Q) :
    tD c W f σ H fun v H1 => ∃ e L T G ρ d, Sta c e L T G H1 σ ρ ∧ Rep c L G v d ∧ PostG c e W σ ρ (Rep c) L G (g d T) Q := tG.one (R1 := Rep c) (k := fun a _ => g a) h
theorem dt_val (ha : PE X a (tD c W fa)) (he : ∀ whole, isTrue a X.env whole = (do let v ← whole; standAt a.pos; holding [v] (truthy v)) := by intro _; rfl) : PT X a (tT c W (tVal fa)) := by
  refine (pt_val ha he).imp fun σ H Q q => (tG.one (R1 := Rep c) (f := fa) (k := fun d _ => blM d) q).mono fun v H1 q1 => ?_
  obtain ⟨e, L, T, G, ρ, d, S, r, p⟩ := q1
  cases d with
  | bl z =>
    cases r
    exact ⟨z, rfl, p z L G H1 (LE.refl _) (Same.refl _) S rfl⟩
  | _ => exact p.bad
theorem dt_tru (h : Ctx X c W k) (ha : PE X a (tD c W fa)) (he : ∀ whole, isTrue a X.env whole = (do let v ← whole; standAt a.pos; holding [v] (truthy v)) := by intro _; rfl) : PT X a (tT c W (tTru fa)) := by
  refine (pt_truth ha he).imp fun σ H Q q => (tG.one (R1 := Rep c) (f := fa) (k := fun d _ => truM d) q).mono fun v H1 q1 => ?_
  obtain ⟨e, L, T, G, ρ, d, S, r, p⟩ := q1
  have fin : ∀ z, truM d = M.ret z → Q z H1 := fun z hz => by
    rw [hz] at p
    exact p z L G H1 (LE.refl _) (Same.refl _) S rfl
  rw [h.hK]
  cases d with
  | non => cases r; exact ⟨false, rfl, fin _ rfl⟩
  | bl z => cases r; exact ⟨z, rfl, fin _ rfl⟩
  | int i => cases r; exact ⟨i != 0, rfl, fin _ rfl⟩
  | lst xs =>
    cases r with
    | @lst ax vs _ h1 h2 h3 =>
      refine ⟨_, .inl ⟨vs, .of (S.subS.lst h1), rfl⟩, fin _ ?_⟩
      have : vs.isEmpty = xs.isEmpty := by
        have := h2.length
        cases vs <;> cases xs <;> simp_all
      rw [this]; rfl
  | tup xs =>
    cases r with
    | @tup ax vs _ h1 h2 h3 =>
      refine ⟨_, .inr (.inl ⟨vs, S.subS.sqT h1, rfl⟩), fin _ ?_⟩
      have : vs.isEmpty = xs.isEmpty := by
        have := h2.length
        cases vs <;> cases xs <;> simp_all
      rw [this]; rfl
  | _ => exact p.bad
theorem tT_not {f : Tx} {σ : L2.St} {H : Hp} {Q : Bool → Hp → Prop} (h : tT c W (tNotX f) σ H Q) : tNot (tT c W f) σ H Q := by
  refine (tG.one (R1 := fun _ _ (b b' : Bool) => b = b') (f := f) (k := fun b _ => M.ret (!b)) h).mono fun v H1 q1 => ?_
  obtain ⟨e, L, T, G, ρ, d, S, r, p⟩ := q1
  subst r
  exact p _ L G H1 (LE.refl _) (Same.refl _) S rfl
theorem dt_not (ha : PT X a (tT c W ta)) : PT X (.UnaryOp .Not a pos) (tT c W (tNotX ta)) := (pt_not ha).imp fun σ H Q q => tT_not q
theorem tT_and {f g : Tx} {σ : L2.St} {H : Hp} {Q : Bool → Hp → Prop} (h : tT c W (tAndX f g) σ H Q) : tAnd (tT c W f) (tT c W g) σ H Q := by
  refine (tG.one (R1 := fun _ _ (b b' : Bool) => b = b') (f := f) (k := fun b ρ => if b = true then g ρ else M.ret false) h).mono fun v H1 q1 => ?_
  obtain ⟨e, L, T, G, ρ, d, S, r, p⟩ := q1
  subst r
  cases v with
  | true => exact ⟨e, L, T, G, ρ, S, p⟩
  | false => exact p _ L G H1 (LE.refl _) (Same.refl _) S rfl
theorem tT_or {f g : Tx} {σ : L2.St} {H : Hp} {Q : Bool → Hp → Prop} (h : tT c W (tOrX f g) σ H Q) : tOr (tT c W f) (tT c W g) σ H Q := by
  refine (tG.one (R1 := fun _ _ (b b' : Bool) => b = b') (f := f) (k := fun b ρ => if b = true then M.ret true else g ρ) h).mono fun v H1 q1 => ?_
  obtain ⟨e, L, T, G, ρ, d, S, r, p⟩ := q1
  subst r
  cases v with
  | true => exact p _ L G H1 (LE.refl _) (Same.refl _) S rfl
  | false => exact ⟨e, L, T, G, ρ, S, p⟩
theorem dw_and1 (ha : PT X a (tT c W ta)) : PW X (.BoolOp .And [a] pos) (tT c W ta) := pw_and1 ha
theorem dw_or1 (ha : PT X a (tT c W ta)) : PW X (.BoolOp .Or [a] pos) (tT c W ta) := pw_or1 ha
theorem dw_and (ha : PT X a (tT c W ta)) (hb : PW X (.BoolOp .And (b :: rest) pos) (tT c W tb)) : PW X (.BoolOp .And (a :: b :: rest) pos) (tT c W (tAndX ta tb)) := (pw_and ha hb).imp fun σ H Q q => tT_and q
theorem dw_or (ha : PT X a (tT c W ta)) (hb : PW X (.BoolOp .Or (b :: rest) pos) (tT c W tb)) : PW X (.BoolOp .Or (a :: b :: rest) pos) (tT c W (tOrX ta tb)) := (pw_or ha hb).imp fun σ H Q q => tT_or q
theorem bl_one {f : Ex} {K : Bool → En → M D} {σ : L2.St} {H : Hp} {Q : VK} (h : tD c W (fun ρ => f ρ >>= blM >>= fun z => K z ρ) σ H Q) :
    tD c W f σ H fun v H1 => ∃ z, v = .bl z ∧ ∃ e L T G ρ, Sta c e L T G H1 σ ρ ∧ PostG c e W σ ρ (Rep c) L G (K z ρ T) Q := by
  have h' : tD c W (fun ρ => f ρ >>= fun d => blM d >>= fun z => K z ρ) σ H Q := by
    have e : (fun ρ => f ρ >>= blM >>= fun z => K z ρ) = (fun ρ => f ρ >>= fun d => blM d >>= fun z => K z ρ) := by
      funext ρ
      rw [bind_assoc']
    rw [← e]; exact h
  refine (tG.one (R1 := Rep c) (f := f) (k := fun d ρ => blM d >>= fun z => K z ρ) h').mono fun v H1 q1 => ?_
  obtain ⟨e, L, T, G, ρ, d, S, r, p⟩ := q1
  cases d with
  | bl z =>
    cases r
    exact ⟨z, rfl, e, L, T, G, ρ, S, p⟩
  | _ => exact p.bad
theorem de_one {op : BoolOp} (ha : PE X a (tD c W fa)) : PE X (.BoolOp op [a] pos) (tD c W fa) := pe_one ha
theorem de_and (ha : PE X a (tD c W fa)) (hb : PE X (.BoolOp .And (b :: rest) pos) (tD c W fb)) : PE X (.BoolOp .And (a :: b :: rest) pos) (tD c W (dAnd fa fb)) := by
  refine (pe_and ha hb).imp fun σ H Q q => (bl_one (f := fa) (K := fun z ρ => if z = true then fb ρ else M.ret (.bl false)) q).mono fun v H1 q1 => ?_
  obtain ⟨z, rfl, e, L, T, G, ρ, S, p⟩ := q1
  refine ⟨z, rfl, ?_⟩
  cases z with
  | true => exact ⟨e, L, T, G, ρ, S, p⟩
  | false => exact p.val S (.bl _)
theorem de_or (ha : PE X a (tD c W fa)) (hb : PE X (.BoolOp .Or (b :: rest) pos) (tD c W fb)) : PE X (.BoolOp .Or (a :: b :: rest) pos) (tD c W (dOr fa fb)) := by
  refine (pe_or ha hb).imp fun σ H Q q => (bl_one (f := fa) (K := fun z ρ => if z = true then M.ret (.bl true) else fb ρ) q).mono fun v H1 q1 => ?_
  obtain ⟨z, rfl, e, L, T, G, ρ, S, p⟩ := q1
  refine ⟨z, rfl, ?_⟩
  cases z with
  | false => exact ⟨e, L, T, G, ρ, S, p⟩
  | true => exact p.val S (.bl _)
theorem de_not (ha : PE X a (tD c W fa)) : PE X (.UnaryOp .Not a pos) (tD c W (dNot fa)) := by
  refine (pe_not ha).imp fun σ H Q q => (bl_one (f := fa) (K := fun z ρ => M.ret (.bl (!z))) q).mono fun v H1 q1 => ?_
  obtain ⟨z, rfl, e, L, T, G, ρ, S, p⟩ := q1
  exact ⟨z, rfl, p.val S (.bl _)⟩
theorem de_if (hc : PT X cc (tT c W ta)) (ha : PE X a (tD c W fa)) (hb : PE X b (tD c W fb)) : PE X (.IfExp cc a b pos) (tD c W (dIf ta fa fb)) := by
  refine (pe_ifExp hc ha hb).imp fun σ H Q q => (tG.one (R1 := fun _ _ (b b' : Bool) => b = b') (f := ta) (k := fun z ρ => if z = true then fa ρ else fb ρ) q).mono fun v H1 q1 => ?_
  obtain ⟨e, L, T, G, ρ, d, S, r, p⟩ := q1
  subst r
  cases v with
  | true => exact ⟨e, L, T, G, ρ, S, p⟩
  | false => exact ⟨e, L, T, G, ρ, S, p⟩
theorem chain_end {o o' : CmpOp} {r r' : R2} {f f' : D → D → M D} (h : Op2 c r f) (h' : Op2 c r' f') {σ : L2.St} {H : Hp} {Q : VK} (q : tD c W (dChain f f' fa fb fc) σ H Q) : tChain r r' (tD c W fa) (tD c W fb) (tD c W fc) σ H Q := by
  refine (tG.two (R1 := Rep c) (R1' := Rep c) (f := fa) (g := fb) (k := fun x y ρ => f x y >>= blM >>= fun z => if z = true then fc ρ >>= fun u => f' y u else M.ret (.bl false)) Rep.up q).mono fun v H1 q1 => q1.mono fun u H2 q2 => ?_
  obtain ⟨e, L, T, G, ρ, a, b, S, r1, r2, p⟩ := q2
  rw [bind_assoc'] at p
  refine h e W L T G H2 σ ρ v u a b _ S r1 r2 ((PostG.then (R1 := Rep c) p).mono fun y H3 q3 => ?_)
  obtain ⟨L1, T1, G1, d, h1, h2, S1, rd, e1, p1⟩ := q3
  cases d with
  | bl z =>
    cases rd
    refine ⟨z, rfl, ?_⟩
    cases z with
    | false => exact p1.val S1 (.bl _)
    | true =>
      have p2 : PostG c e W σ ρ (Rep c) L1 G1 ((fc ρ >>= fun u => f' b u) T1) Q := p1
      refine ⟨e, L1, T1, G1, ρ, S1, (PostG.then (R1 := Rep c) p2).mono fun y4 H4 q4 => ?_⟩
      obtain ⟨L2', T2, G2, d2', h3, h4, S2, rd2, e2, p3⟩ := q4
      exact h' e W L2' T2 G2 H4 σ ρ u y4 b d2' Q S2 (r2.up (h1.trans h3) (h2.trans h4)) rd2 p3
  | _ => exact p1.bad
theorem de_lele (ha : PE X a (tD c W fa)) (hb : PE X b (tD c W fb)) (hc : PE X cc (tD c W fc)) (hm : lastMarks [.LtE, .LtE] [b, cc] = false := by rfl) : PE X (.Compare a [.LtE, .LtE] [b, cc] pos) (tD c W (dChain leM leM fa fb fc)) :=
  (pe_chain op_le op_le ha hb hc hm).imp fun σ H Q q => chain_end (o := .LtE) (o' := .LtE) op2_le op2_le q
theorem dt_lele (ha : PE X a (tD c W fa)) (hb : PE X b (tD c W fb)) (hc : PE X cc (tD c W fc)) (hm : lastMarks [.LtE, .LtE] [b, cc] = false := by rfl) : PT X (.Compare a [.LtE, .LtE] [b, cc] pos) (tT c W (tVal (dChain leM leM fa fb fc))) := by
  refine (pt_chain op_le op_le ha hb hc hm).imp fun σ H Q q => ?_
  refine chain_end (W := W) (fa := fa) (fb := fb) (fc := fc) (f := leM) (f' := leM) (o := .LtE) (o' := .LtE) op2_le op2_le ?_
  obtain ⟨e, L, T, G, ρ, S, p⟩ := q
  exact ⟨e, L, T, G, ρ, S, test_end p⟩
variable {es : List Expr} {fs : List Ex}
theorem da_nil : PA X [] (tL c W (dArgs [])) := pa_nil.imp fun σ H Q ⟨e, L, T, G, ρ, S, p⟩ => p _ L G H (LE.refl _) (Same.refl _) S .nil
theorem da_cons (ha : PE X a (tD c W fa)) (hr : PA X es (tL c W (dArgs fs))) (hs : starEach (a :: es) X.env = (false, eval a X.env) :: starEach es X.env := by rfl) : PA X (a :: es) (tL c W (dArgs (fa :: fs))) := by
  refine (pa_cons ha hr hs).imp fun σ H Q q => (tG.two (R1 := Rep c) (R1' := RepL c) (f := fa) (g := dArgs fs) (k := fun x xs _ => M.ret (x :: xs)) Rep.up q).mono fun v H1 q1 => q1.mono fun u H2 q2 => ?_
  obtain ⟨e, L, T, G, ρ, a, b, S, r1, r2, p⟩ := q2
  exact p _ L G H2 (LE.refl _) (Same.refl _) S (.cons r1 r2)
theorem de_tup {x1 : Nat} (h : PA X es (tL c W (dArgs fs))) : PE X (.Tuple es x1 pos) (tD c W (dTup fs)) := by
  refine (pe_tup h).imp fun σ H Q q => (tG.one (R1 := RepL c) (R2 := Rep c) (f := dArgs fs) (k := fun xs _ => if xs.length ≤ sizeLine then M.ret (D.tup xs) else M.fail) q).mono fun vs H1 q1 => ?_
  obtain ⟨e, L, T, G, ρ, ds, S, r, p⟩ := q1
  by_cases z : ds.length ≤ sizeLine
  · rw [if_pos z] at p
    exact ⟨by rw [r.length]; exact z, p.newT S r z⟩
  · rw [if_neg z] at p
    exact p.bad
/-- a fresh list becomes plain data -/
theorem tO_own {f : Ox} {σ : L2.St} {H : Hp} {Q : VK} (h : tD c W (dOwn f) σ H Q) : tO c W f σ H Q := by
  obtain ⟨e, L, T, G, ρ, S, p⟩ := h
  refine ⟨e, L, T, G, ρ, S, ?_⟩
  cases hr : f ρ T with
  | bad => unfold dOwn at p; rw [bnd_bad hr] at p; exact p
  | exn k T' => unfold dOwn at p; rw [bnd_exn hr] at p; exact p
  | ok ds T' =>
    unfold dOwn at p; rw [bnd_ok hr] at p
    intro q L' G' H' h1 h2 S' fr
    obtain ⟨vs, hv, rv, hz⟩ := fr.at_
    have gs := same_upd (o := .lst vs) fr.g
    exact p _ L' _ H' h1 (h2.trans gs) (S'.freeze hv fr.g fr.l fr.l0 fr.h0 fr.xo fr.sl) (.lst upd_same (rv.up (LE.refl _) gs) hz)
theorem de_own {f : Ox} (h : PE X a (tO c W f)) : PE X a (tD c W (dOwn f)) := h.imp fun σ H Q q => tO_own q
theorem Sta.fresh {e : Gh} {L : List (List Addr)} {G H : Hp} {T : List Cell} {σ : L2.St} {ρ : En} (S : Sta c e L T G H σ ρ) {p : Addr} (hp : H p = none) {vs : List V} {ds : List D} (r : RepL c L G vs ds) (hz : ds.length ≤ sizeLine) :
    FreshL c e L G (upd H p (.lst vs)) σ ρ p ds := ⟨⟨vs, upd_same, r, hz⟩, S.gnone hp, S.notcell hp, S.notcell0 hp, S.h0none hp (S.notcell hp) (S.notcell0 hp), S.notx hp, S.notslot hp⟩
theorem do_lst (h : PA X es (tL c W (dArgs fs))) : PE X (.List es pos) (tO c W (oLst fs)) := by
  refine (pe_lst h).imp fun σ H Q q => ?_
  obtain ⟨e, L, T, G, ρ, S, p⟩ := q
  refine ⟨e, L, T, G, ρ, S, ?_⟩
  cases hr : dArgs fs ρ T with
  | bad => unfold oLst at p; rw [bnd_bad hr] at p; exact p
  | exn k T' => unfold oLst at p; rw [bnd_exn hr] at p; exact p
  | ok ds T' =>
    unfold oLst at p; rw [bnd_ok hr] at p
    intro vs L' G' H' h1 h2 S' rv
    by_cases z : ds.length ≤ sizeLine
    · rw [if_pos z] at p
      exact ⟨by rw [rv.length]; exact z, fun q hq => p q L' G' _ h1 h2 (S'.grow hq) (S'.fresh hq rv z)⟩
    · rw [if_neg z] at p
      exact False.elim p
theorem de_ix (h : Ctx X c W k) (ha : PE X a (tD c W fa)) (hb : PE X b (tD c W fb)) (hs : PlainIx b := by exact fun _ _ => rfl) : PE X (.Subscript a b pos) (tD c W (d2 ixM fa fb)) := by
  refine (pe_ix (IxR.or ix_list ix_tup) ha hb hs).imp fun σ H Q q => (tG.two (R1 := Rep c) (R1' := Rep c) Rep.up q).mono fun v H1 q1 => q1.mono fun u H2 q2 => ?_
  obtain ⟨e, L, T, G, ρ, a, b, S, r1, r2, p⟩ := q2
  rw [h.hK]
  exact op2_ix e W L T G H2 σ ρ v u a b Q S r1 r2 p
end
end WW
set_option maxHeartbeats 1000000
namespace WW
open PySem PySem.Spec PyProof.Rows L2
def CallD (c : Cfg) (r : List V → Hp → VK → Prop) (F : List D → M D) : Prop := ∀ (e : Gh) (W : WX) (L : List (List Addr)) (T : List Cell) (G H : Hp) (σ : L2.St) (ρ : En) (vs : List V) (ds : List D) (Q : VK), Sta c e L T G H σ ρ → RepL c L G vs ds →
  PostG c e W σ ρ (Rep c) L G (F ds T) Q → r vs H Q
def PostO (c : Cfg) (e : Gh) (W : WX) (σ : L2.St) (ρ : En) (L : List (List Addr)) (G : Hp) (r : Rs (List D)) (Q : VK) : Prop := match r with
  | .ok ds T' => ∀ p L' G' H', LE L L' → Same G G' → Sta c e L' T' G' H' σ ρ → FreshL c e L' G' H' σ ρ p ds → Q (.ref p) H'
  | .exn k T' => ∀ L' G' H', LE L L' → Same G G' → Sta c e L' T' G' H' σ ρ → W (.ref (c.CA k)) none σ H'
  | .bad => False
def CallO (c : Cfg) (r : List V → Hp → VK → Prop) (F : List D → M (List D)) : Prop := ∀ (e : Gh) (W : WX) (L : List (List Addr)) (T : List Cell) (G H : Hp) (σ : L2.St) (ρ : En) (vs : List V) (ds : List D) (Q : VK), Sta c e L T G H σ ρ → RepL c L G vs ds →
  PostO c e W σ ρ L G (F ds T) Q → r vs H Q
def F1 {α : Type} (op : D → M α) : List D → M α
  | [x] => op x
  | _ => M.fail
def oCall (F : List D → M (List D)) (as : List Ex) : Ox := fun ρ => dArgs as ρ >>= F
section
variable {c : Cfg}
theorem PostO.newO {e : Gh} {W : WX} {σ : L2.St} {ρ : En} {L : List (List Addr)} {G H : Hp} {T : List Cell} {ds : List D} {vs : List V} {Q : VK} (p : PostO c e W σ ρ L G (M.ret ds T) Q) (S : Sta c e L T G H σ ρ) (r : RepL c L G vs ds) (hz : ds.length ≤ sizeLine) :
    ∀ a, H a = none → Q (.ref a) (upd H a (.lst vs)) := fun a ha => p a L G _ (LE.refl _) (Same.refl _) (S.grow ha) (S.fresh ha r hz)
theorem cd_len : CallD c (fun xs H Q => ∃ p ys, xs = [.ref p] ∧ (SqL c.K H p ys ∨ SqT c.K H p ys) ∧ Q (.int ys.length) H) (F1 lenM) := by
  intro e W L T G H σ ρ vs ds Q S r p
  cases r with
  | nil => exact p.bad
  | cons r1 r2 =>
    cases r2 with
    | cons _ _ => exact p.bad
    | nil =>
      cases r1 with
      | @lst a vs ds h1 h2 h3 =>
        refine ⟨a, vs, rfl, .inl (.of (S.subS.lst h1)), ?_⟩
        have q := p.val S (.int _)
        rw [h2.length]; exact q
      | @tup a vs ds h1 h2 h3 =>
        refine ⟨a, vs, rfl, .inr (S.subS.sqT h1), ?_⟩
        have q := p.val S (.int _)
        rw [h2.length]; exact q
      | _ => exact p.bad
theorem cd_all : CallD c (rAll c.K) (F1 allM) := by
  intro e W L T G H σ ρ vs ds Q S r p
  cases r with
  | nil => exact p.bad
  | cons r1 r2 =>
    cases r2 with
    | cons _ _ => exact p.bad
    | nil =>
      cases r1 with
      | @lst a vs ds h1 h2 h3 =>
        simp only [F1, allM] at p
        cases q : blsOf ds with
        | none => rw [q] at p; exact p.bad
        | some bs =>
          rw [q] at p
          have e1 := blsOf_some q
          subst e1
          rw [h2.bls] at h1
          exact ⟨a, bs, rfl, .of (S.subS.lst h1), p.val S (.bl _)⟩
      | _ => exact p.bad
theorem cd_any : CallD c (rAny c.K) (F1 anyM) := by
  intro e W L T G H σ ρ vs ds Q S r p
  cases r with
  | nil => exact p.bad
  | cons r1 r2 =>
    cases r2 with
    | cons _ _ => exact p.bad
    | nil =>
      cases r1 with
      | @lst a vs ds h1 h2 h3 =>
        simp only [F1, anyM] at p
        cases q : blsOf ds with
        | none => rw [q] at p; exact p.bad
        | some bs =>
          rw [q] at p
          have e1 := blsOf_some q
          subst e1
          rw [h2.bls] at h1
          exact ⟨a, bs, rfl, .of (S.subS.lst h1), p.val S (.bl _)⟩
      | _ => exact p.bad
theorem cd_tuple : CallD c (fun xs H Q => ∃ p ys, xs = [.ref p] ∧ ((SqL c.K H p ys ∧ ∀ l, H l = none → Q (.ref l) (upd H l (.tup ys))) ∨ (SqT c.K H p ys ∧ Q (.ref p) H))) (F1 tupleM) := by
  intro e W L T G H σ ρ vs ds Q S r p
  cases r with
  | nil => exact p.bad
  | cons r1 r2 =>
    cases r2 with
    | cons _ _ => exact p.bad
    | nil =>
      have r1' := r1
      cases r1 with
      | @lst a vs ds h1 h2 h3 => exact ⟨a, vs, rfl, .inl ⟨.of (S.subS.lst h1), p.newT S h2 h3⟩⟩
      | @tup a vs ds h1 h2 h3 => exact ⟨a, vs, rfl, .inr ⟨S.subS.sqT h1, p.val S r1'⟩⟩
      | _ => exact p.bad
def listM : D → M (List D)
  | .lst xs => M.ret xs
  | .tup xs => M.ret xs
  | _ => M.fail
theorem co_list : CallO c (fun xs H Q => ∃ p ys, xs = [.ref p] ∧ (SqL c.K H p ys ∨ SqT c.K H p ys) ∧ ∀ l, H l = none → Q (.ref l) (upd H l (.lst ys))) (F1 listM) := by
  intro e W L T G H σ ρ vs ds Q S r p
  cases r with
  | nil => exact False.elim p
  | cons r1 r2 =>
    cases r2 with
    | cons _ _ => exact False.elim p
    | nil =>
      cases r1 with
      | @lst a vs ds h1 h2 h3 => exact ⟨a, vs, rfl, .inl (.of (S.subS.lst h1)), PostO.newO p S h2 h3⟩
      | @tup a vs ds h1 h2 h3 => exact ⟨a, vs, rfl, .inr (S.subS.sqT h1), PostO.newO p S h2 h3⟩
      | _ => exact False.elim p
theorem isort_perm (ns : List Int) : (isort ns).Perm ns := List.mergeSort_perm ns _
theorem isort_sorted (ns : List Int) : (isort ns).Pairwise (· ≤ ·) := by
  have h := List.pairwise_mergeSort (le := fun a b : Int => decide (a ≤ b)) (fun a b d h1 h2 => by simp only [decide_eq_true_eq] at *; omega) (fun a b => by simp only [Bool.or_eq_true, decide_eq_true_eq]; omega) ns
  exact h.imp fun {a b} h => by simpa using h
theorem sorted_uniq : ∀ {a b : List Int}, a.Perm b → a.Pairwise (· ≤ ·) → b.Pairwise (· ≤ ·) → a = b := fun {a b} h h1 h2 =>
  h.eq_of_pairwise (le := (· ≤ ·)) (fun x y _ _ h3 h4 => Int.le_antisymm h3 h4) h1 h2
end
end WW
set_option maxHeartbeats 1000000
namespace WW
open PySem PySem.Spec PyProof.Rows L2
theorem lex_irr : ∀ a : List Int, HT.lexLt a a = false
  | [] => rfl
  | x :: xs => by rw [HT.lexLt_cons, if_pos rfl, lex_irr xs]
theorem lex_asym : ∀ {a b : List Int}, HT.lexLt a b = true → HT.lexLt b a = false
  | [], [], h => by cases h
  | [], _ :: _, _ => rfl
  | _ :: _, [], h => by cases h
  | x :: xs, y :: ys, h => by
    rw [HT.lexLt_cons] at h ⊢
    by_cases e : x = y
    · rw [if_pos e] at h
      rw [if_pos e.symm]
      exact lex_asym h
    · rw [if_neg e] at h
      rw [if_neg (fun z => e z.symm)]
      have := of_decide_eq_true h
      exact decide_eq_false (by omega)
theorem lex_tot : ∀ {a b : List Int}, HT.lexLt a b = false → HT.lexLt b a = false → a = b
  | [], [], _, _ => rfl
  | [], _ :: _, h, _ => by cases h
  | _ :: _, [], _, h => by cases h
  | x :: xs, y :: ys, h1, h2 => by
    rw [HT.lexLt_cons] at h1 h2
    by_cases e : x = y
    · rw [if_pos e] at h1
      rw [if_pos e.symm] at h2
      rw [e, lex_tot h1 h2]
    · rw [if_neg e] at h1
      rw [if_neg (fun z => e z.symm)] at h2
      have a := of_decide_eq_false h1
      have b := of_decide_eq_false h2
      omega
theorem lex_trans : ∀ {a b d : List Int}, HT.lexLt a b = true → HT.lexLt b d = true → HT.lexLt a d = true
  | [], [], _, h, _ => by cases h
  | [], _ :: _, [], _, h => by cases h
  | [], _ :: _, _ :: _, _, _ => rfl
  | _ :: _, [], _, h, _ => by cases h
  | _ :: _, _ :: _, [], _, h => by cases h
  | x :: xs, y :: ys, z :: zs, h1, h2 => by
    rw [HT.lexLt_cons] at h1 h2 ⊢
    by_cases e : x = y
    · subst e
      rw [if_pos rfl] at h1
      by_cases e2 : x = z
      · rw [if_pos e2] at h2 ⊢
        exact lex_trans h1 h2
      · rw [if_neg e2] at h2 ⊢
        exact h2
    · rw [if_neg e] at h1
      have a := of_decide_eq_true h1
      by_cases e2 : y = z
      · subst e2
        rw [if_neg e]
        exact h1
      · rw [if_neg e2] at h2
        have b := of_decide_eq_true h2
        rw [if_neg (by omega)]
        exact decide_eq_true (by omega)
/-- not after -/
def lexLe (a b : List Int) : Bool := !HT.lexLt b a
theorem lexLe_trans (a b d : List Int) (h1 : lexLe a b = true) (h2 : lexLe b d = true) : lexLe a d = true := by
  unfold lexLe at *
  simp only [Bool.not_eq_true'] at *
  cases q : HT.lexLt d a with
  | false => rfl
  | true =>
    cases q2 : HT.lexLt b d with
    | true => rw [lex_trans q2 q] at h1; cases h1
    | false =>
      have := lex_tot q2 h2
      subst this
      rw [q] at h1; cases h1
theorem lexLe_tot (a b : List Int) : (lexLe a b || lexLe b a) = true := by
  unfold lexLe
  cases q : HT.lexLt b a with
  | false => rfl
  | true => rw [lex_asym q]; rfl
theorem lexLe_anti {a b : List Int} (h1 : lexLe a b = true) (h2 : lexLe b a = true) : a = b := by
  unfold lexLe at *
  simp only [Bool.not_eq_true'] at *
  exact lex_tot h2 h1
def tsort (xs : List (List Int)) : List (List Int) := xs.mergeSort lexLe
theorem tsort_perm (xs : List (List Int)) : (tsort xs).Perm xs := List.mergeSort_perm xs _
theorem tsort_sorted (xs : List (List Int)) : (tsort xs).Pairwise (fun a b => lexLe a b = true) := List.pairwise_mergeSort lexLe_trans lexLe_tot xs
theorem tsort_uniq {a b : List (List Int)} (h : a.Perm b) (h1 : a.Pairwise (fun a b => lexLe a b = true)) (h2 : b.Pairwise (fun a b => lexLe a b = true)) : a = b :=
  h.eq_of_pairwise (le := fun a b => lexLe a b = true) (fun x y _ _ h3 h4 => lexLe_anti h3 h4) h1 h2
/-- v is a tuple of these ints -/
def IsTupI (h : Heap) (v : Value) (ns : List Int) : Prop := ∃ a o us n, v = .ref a ∧ h.get? a = some o ∧ o.cls = .type "tuple" ∧ o.data = .seq us n ∧ IntsAre us.toList ns
theorem IsTupI.keeps {h h' : Heap} {v : Value} {ns : List Int} (p : IsTupI h v ns) (k : ∀ b o, h.get? b = some o → o.cls = .type "tuple" → h'.get? b = some o) : IsTupI h' v ns := by
  obtain ⟨a, o, us, n, e, ho, hc, hd, hi⟩ := p
  exact ⟨a, o, us, n, e, k _ _ ho hc, hc, hd, hi⟩
theorem swo_lexI (k : Value → List Int) : SrtO.Swo fun v u => HT.lexLt (k v) (k u) := by
  refine ⟨fun x y h => lex_asym h, fun x y z h1 h2 => ?_⟩
  cases q : HT.lexLt (k z) (k x) with
  | false => rfl
  | true =>
    cases q2 : HT.lexLt (k z) (k y) with
    | true => rw [q2] at h2; cases h2
    | false =>
      cases q3 : HT.lexLt (k y) (k z) with
      | false =>
        have := lex_tot q2 q3
        rw [this, h1] at q; cases q
      | true => rw [lex_trans q3 q] at h1; cases h1
section
variable {prog : Program} {w : World} {A : Around} {E : Value → Shared → Prop} {s : Shared}
theorem kat_ints {b : Bool} : ∀ {us vs : List Value} {ns ms : List Int} {i : Nat} {R : Bool → Prop}, IntsAre us ns → IntsAre vs ms → R (HT.lexLt ns ms) →
    PySem.W.KatLex prog w A b (decide (us.length < vs.length)) (fun r s' => s' = s ∧ R r) (us.zip vs) i s
  | [], [], _, _, _, R, hu, hv, h => by
    cases hu; cases hv
    exact PySem.W.kat_nil ⟨rfl, h⟩
  | [], _ :: _, _, _, _, R, hu, hv, h => by
    cases hu; cases hv
    exact PySem.W.kat_nil ⟨rfl, h⟩
  | _ :: _, [], _, _, _, R, hu, hv, h => by
    cases hu; cases hv
    exact PySem.W.kat_nil ⟨rfl, h⟩
  | _ :: us, _ :: vs, _, _, i, R, .cons x t hu, .cons y t' hv, h => by
    rw [HT.lexLt_cons] at h
    have el : decide ((Value.int x t :: us).length < (Value.int y t' :: vs).length) = decide (us.length < vs.length) := by
      simp only [List.length_cons, Nat.add_lt_add_iff_right]
    rw [el]
    show PySem.W.KatLex prog w A b _ _ ((Value.int x t, Value.int y t') :: us.zip vs) i s
    refine PySem.W.kat_cons (SeqAt.EqAt.int_int x t y t' prog w _ _ ?_)
    refine PySem.W.kat_go (fun e1 => ?_) (fun e1 => ?_)
    · have ex : x = y := by simpa using e1
      rw [if_pos ex] at h
      exact PySem.W.kat_yes (kat_ints hu hv h)
    · have ex : ¬ x = y := by simpa using e1
      rw [if_neg ex] at h
      refine PySem.W.kat_no ?_
      cases hb : (b && i == 0) with
      | true => exact PyProof.Rows.oneLt_int ⟨rfl, h⟩
      | false => exact PySem.W.kat_one _ _ (PyProof.Rows.lt_int (show s = s ∧ R (decide (x < y)) from ⟨rfl, h⟩))
theorem tups_cmp {vs : List Value} {k : Value → List Int} (hp : ∀ v ∈ vs, IsTupI s.heap v (k v)) : SrtO.Cmp prog w A s (tuples' true) (fun p => p.1 ∈ vs) (SrtO.lt2 fun v u => HT.lexLt (k v) (k u)) := by
  intro p q hm hm'
  obtain ⟨a, o, us, n, e, ho, hc, hd, hi⟩ := hp _ hm
  obtain ⟨a', o', us', n', e', ho', hc', hd', hi'⟩ := hp _ hm'
  show wpAny (model prog w) A (keyLt' (tuples' true) p.1 q.1) (fun r s' => s' = s ∧ r = HT.lexLt (k p.1) (k q.1)) (fun _ _ => False) s
  generalize k p.1 = x at hi ⊢
  generalize k q.1 = y at hi' ⊢
  rw [e, e']
  refine PySem.W.kat_lt ho hd ho' hd' ?_
  have := kat_ints (prog := prog) (w := w) (A := A) (s := s) (b := true) (i := 0) (R := fun r => r = HT.lexLt x y) hi hi' rfl
  simpa using this
theorem firstsI {h : Heap} : ∀ {vs : List Value}, (∀ v ∈ vs, ∃ n ns, IsTupI h v (n :: ns)) → ∃ fs : List Value, PySem.W.KatTups h vs fs ∧ fs.length = vs.length ∧ ∀ f ∈ fs, ∃ x t, f = Value.int x t
  | [], _ => ⟨[], PySem.W.KatTups.nil, rfl, fun _ hm => by simp at hm⟩
  | v :: vs, hp => by
    obtain ⟨fs, h1, h2, h3⟩ := firstsI fun u hu => hp u (List.mem_cons_of_mem _ hu)
    obtain ⟨x, ns, a, o, us, n, rfl, ho, hc, hd, hi⟩ := hp v List.mem_cons_self
    obtain ⟨u, r, hu⟩ : ∃ u r, us.toList = u :: r := by
      cases q : us.toList with
      | nil => rw [q] at hi; cases hi
      | cons u r => exact ⟨u, r, rfl⟩
    have hz : us[0]? = some u := by rw [← Array.getElem?_toList, hu]; rfl
    rw [hu] at hi
    obtain ⟨t, rfl⟩ : ∃ t, u = Value.int x t := by
      cases hi with
      | cons _ t _ => exact ⟨t, rfl⟩
    refine ⟨.int x t :: fs, PySem.W.KatTups.cons ho hc hd hz h1, by rw [List.length_cons, List.length_cons, h2], fun f hm => ?_⟩
    rcases List.mem_cons.mp hm with e | hm
    · exact ⟨x, t, e⟩
    · exact h3 f hm
theorem tups_sortable {a : Addr} {vs : List Value} {k : Value → List Int} (h0 : 0 < vs.length) (hp : ∀ v ∈ vs, IsTupI s.heap v (k v)) (hk : ∀ v ∈ vs, k v ≠ []) (ha : ∀ o, s.heap.get? a = some o → o.cls ≠ .type "tuple") :
    SrtO.SortableO prog w A s a vs fun v u => HT.lexLt (k v) (k u) := by
  intro h' keep
  have hp' : ∀ v ∈ vs, IsTupI h' v (k v) := fun v hm => (hp v hm).keeps fun b o e c => keep b o (fun z => by subst z; exact ha o e c) e
  obtain ⟨fs, h1, h2, h3⟩ := firstsI (h := h') (vs := vs) fun v hm => by
    have q := hp' v hm
    have q2 := hk v hm
    cases e : k v with
    | nil => exact absurd e q2
    | cons n ns => rw [e] at q; exact ⟨n, ns, q⟩
  refine ⟨tuples' true, fun Q E hq => ?_, tups_cmp hp'⟩
  refine PySem.W.kat_kind (T := .type "int") h1 (by omega) (fun f hm => ?_) (by rfl) ?_
  · obtain ⟨x, t, rfl⟩ := h3 f hm
    exact PySem.W.Looks.now
  · have e : (Value.type "int" != Value.type "tuple") = true := by first | decide +kernel | rfl | decide
    rw [e]
    exact hq
end
/-- sorted(xs), xs a list of tuples of ints, none empty (or there is just one) -/
def rSortedT (K : PySem.W.Frag) : List V → Hp → VK → Prop := fun vs H Q => ∃ (a : Addr) (ps : List (V × List Int)), vs = [V.ref a] ∧ SqL K H a (ps.map (·.1)) ∧ (∀ q ∈ ps, ∃ t, q.1 = V.ref t ∧ SqT K H t (q.2.map V.int)) ∧ (2 ≤ ps.length → ∀ q ∈ ps, q.2 ≠ []) ∧
  ∀ (qs : List (V × List Int)) p, qs.Perm ps → (qs.map (·.2)).Pairwise (fun x y => lexLe x y = true) → H p = none → Q (.ref p) (upd H p (.lst (qs.map (·.1))))
theorem int_inj : ∀ {a b : List Int}, a.map V.int = b.map V.int → a = b
  | [], [], _ => rfl
  | [], _ :: _, h => by cases h
  | _ :: _, [], h => by cases h
  | x :: xs, y :: ys, h => by
    rw [List.map_cons, List.map_cons] at h
    injection h with h1 h2
    injection h1 with h3
    rw [h3, int_inj h2]
theorem lookup_mem {β : Type} {ps : List (V × β)} {q : V × β} (h : q ∈ ps) : ∃ b, ps.lookup q.1 = some b ∧ (q.1, b) ∈ ps := by
  induction ps with
  | nil => cases h
  | cons p ps ih =>
    obtain ⟨p1, p2⟩ := p
    by_cases e : q.1 = p1
    · refine ⟨p2, ?_, by rw [e]; exact List.mem_cons_self⟩
      rw [List.lookup_cons, e]
      simp
    · rcases List.mem_cons.mp h with z | h
      · rw [z] at e; exact absurd rfl e
      · obtain ⟨b, h1, h2⟩ := ih h
        refine ⟨b, ?_, List.mem_cons_of_mem _ h2⟩
        have : (q.1 == p1) = false := by simpa using e
        rw [List.lookup_cons, this]
        exact h1
/-- back -/
def bk : Value → V
  | .ref a => .ref a
  | _ => .non
theorem vals_bk : ∀ {us : List Value}, (∀ u ∈ us, ∃ a, u = Value.ref a) → Vals (us.map bk) us
  | [], _ => .nil
  | u :: us, h => by
    obtain ⟨a, rfl⟩ := h u List.mem_cons_self
    exact .cons rfl (vals_bk fun y hy => h y (List.mem_cons_of_mem _ hy))
theorem bk_of : ∀ {xs : List V} {us : List Value}, Vals xs us → (∀ x ∈ xs, ∃ t, x = V.ref t) → us.map bk = xs ∧ ∀ u ∈ us, ∃ a, u = Value.ref a ∧ V.ref a ∈ xs
  | _, _, .nil, _ => ⟨rfl, fun _ h => by simp at h⟩
  | _, _, .cons (a := x) (b := u) r t, h => by
    obtain ⟨a, rfl⟩ := h x List.mem_cons_self
    have : u = Value.ref a := r
    subst this
    obtain ⟨e, q⟩ := bk_of t fun y hy => h y (List.mem_cons_of_mem _ hy)
    refine ⟨by rw [List.map_cons, e]; rfl, fun v hv => ?_⟩
    rcases List.mem_cons.mp hv with z | hv
    · exact ⟨a, z, List.mem_cons_self⟩
    · obtain ⟨b, z, m⟩ := q v hv
      exact ⟨b, z, List.mem_cons_of_mem _ m⟩
theorem cr_sortedT {X : Cx} : CallR X (.builtin "sorted") (rSortedT X.K) := by
  intro pins s σ H vs us Q I r h
  obtain ⟨a, ps, rfl, hs, hx, hne, q⟩ := h
  have hk : ∀ q ∈ ps, (ps.lookup q.1).getD [] = q.2 := fun q hq => by
    obtain ⟨b, h1, h2⟩ := lookup_mem hq
    rw [h1]
    obtain ⟨t, e1, s1⟩ := hx q hq
    obtain ⟨t', e2, s2⟩ := hx _ h2
    rw [e1] at e2
    cases e2
    exact int_inj (I.tuple_inj s2 s1)
  generalize hkd : (fun x : V => (ps.lookup x).getD []) = k at hk
  have hk' : ∀ q ∈ ps, k q.1 = q.2 := fun q hq => by rw [← hkd]; exact hk q hq
  obtain ⟨its, rv, hl, hz⟩ := I.list hs
  rw [Vals.ref1 r]
  obtain ⟨e1, e2⟩ := bk_of rv fun x m => by
    obtain ⟨q, hq, rfl⟩ := List.mem_map.mp m
    obtain ⟨t, e, _⟩ := hx q hq
    exact ⟨t, e⟩
  have hp : ∀ v ∈ its, IsTupI s.heap v (k (bk v)) := fun v hv => by
    obtain ⟨t, rfl, hm⟩ := e2 v hv
    obtain ⟨q, hq, eq⟩ := List.mem_map.mp hm
    obtain ⟨t', e, ht⟩ := hx q hq
    rw [eq] at e
    cases e
    obtain ⟨its2, r2, ⟨o, ho, hc, n, hd⟩, _⟩ := I.tuple ht
    have e3 : k (V.ref t) = q.2 := by rw [← eq]; exact hk' q hq
    exact ⟨t, o, its2.toArray, n, rfl, ho, hc, hd, show IntsAre its2 (k (V.ref t)) by rw [e3]; exact r2.ints⟩
  have hlen := rv.length
  rw [List.length_map] at hlen hz
  refine SrtO.sorted_ord (swo_lexI fun u => k (bk u)) hl.isList (by rw [← hlen]; exact hz) (fun h2 h₁ a' ha kk => ?_) fun out h1 h2 => ?_
  · refine tups_sortable (s := { s with heap := h₁ }) (by omega) (fun v hm => (hp v hm).keeps fun b o e _ => (kk b o e).2) (fun v hv => ?_) fun o e => ?_
    · obtain ⟨t, rfl, hm⟩ := e2 v hv
      obtain ⟨q, hq, eq⟩ := List.mem_map.mp hm
      have e3 : k (V.ref t) = q.2 := by rw [← eq]; exact hk' q hq
      show k (V.ref t) ≠ []
      rw [e3]
      exact hne (by omega) q hq
    · have e' : some o = some (seqObj "list" its.toArray 0) := e.symm.trans ha
      cases e'
      intro c
      exact absurd (Value.type.inj c) (by decide)
  · obtain ⟨ep, he'⟩ := PyProof.Rows.sortedAll_at s.heap its out.toArray
    have h3 : ∀ u ∈ out, ∃ a, u = Value.ref a := fun u hu => by
      obtain ⟨t, e, _⟩ := e2 u (h2.perm.mem_iff.mp hu)
      exact ⟨t, e⟩
    have hperm : (out.map bk).Perm (ps.map (·.1)) := by rw [← e1]; exact h2.perm.map bk
    have hl2 : (out.map bk).length ≤ sizeLine := by rw [hperm.length_eq, List.length_map]; exact hz
    have hps : (ps.map (·.1)).map (fun x => (x, k x)) = ps := by
      rw [List.map_map]
      conv => rhs; rw [← List.map_id ps]
      exact List.map_congr_left fun q hq => by
        show (q.1, k q.1) = q
        rw [hk' q hq]
    have hqs : ((out.map bk).map fun x => (x, k x)).Perm ps := by
      have := hperm.map fun x => (x, k x)
      rw [hps] at this
      exact this
    have e4 : ((out.map bk).map fun x => (x, k x)).map (·.1) = out.map bk := by
      rw [List.map_map]
      exact List.map_id _
    have e5 : ((out.map bk).map fun x => (x, k x)).map (·.2) = out.map fun u => k (bk u) := by
      rw [List.map_map, List.map_map]; rfl
    have q' := q _ (s.heap.objs.size + 1) hqs (by
      rw [e5]
      refine List.pairwise_map.mpr (h1.imp fun {x y} h => ?_)
      have h' : HT.lexLt (k (bk y)) (k (bk x)) = false := h
      unfold lexLe
      rw [h']; rfl) (I.hok.fresh (Nat.le_succ _))
    rw [e4] at q'
    exact ⟨.ref _, upd H (s.heap.objs.size + 1) (.lst (out.map bk)), I.laid (t' := s.toks) (fun _ _ => PyProof.Rows.sortedAll_old) (Nat.le_succ _) ⟨hl2, out, ep, vals_bk h3, he'⟩, rfl, q'⟩
end WW
set_option maxHeartbeats 1000000
namespace WW
open PySem PySem.Spec PyProof.Rows L2
def tupI (ns : List Int) : D := .tup (ns.map .int)
def tupsOf : List D → Option (List (List Int))
  | [] => some []
  | .tup xs :: r => match intsOf xs, tupsOf r with
    | some ns, some t => some (ns :: t)
    | _, _ => none
  | _ => none
theorem tupsOf_some : ∀ {ds : List D} {t : List (List Int)}, tupsOf ds = some t → ds = t.map tupI
  | [], t, h => by simp [tupsOf] at h; subst h; rfl
  | d :: ds, t, h => by
    cases d with
    | tup xs =>
      simp only [tupsOf] at h
      cases q1 : intsOf xs with
      | none => rw [q1] at h; simp at h
      | some ns =>
        cases q2 : tupsOf ds with
        | none => rw [q1, q2] at h; simp at h
        | some r =>
          rw [q1, q2] at h
          simp at h
          subst h
          rw [List.map_cons, tupsOf_some q2, intsOf_some q1]; rfl
    | _ => simp [tupsOf] at h
@[simp] theorem tupsOf_map : ∀ t : List (List Int), tupsOf (t.map tupI) = some t
  | [] => rfl
  | n :: t => by
    rw [List.map_cons]
    show (match intsOf (n.map D.int), tupsOf (t.map tupI) with | some ns, some t => some (ns :: t) | _, _ => none) = _
    rw [intsOf_map, tupsOf_map t]
def sortM : D → M (List D)
  | .lst xs => (match intsOf xs with
    | some ns => M.ret ((isort ns).map .int)
    | none => (match tupsOf xs with
      | some t => if 2 ≤ t.length → ∀ ns ∈ t, ns ≠ [] then M.ret ((tsort t).map tupI) else M.fail
      | none => M.fail))
  | _ => M.fail
section
variable {c : Cfg} {L : List (List Addr)} {G : Hp}
theorem repL_tups : ∀ {vs : List V} {t : List (List Int)}, RepL c L G vs (t.map tupI) → ∃ ps : List (V × List Int), vs = ps.map (·.1) ∧ t = ps.map (·.2) ∧ ∀ q ∈ ps, Rep c L G q.1 (tupI q.2)
  | _, [], h => by cases h; exact ⟨[], rfl, rfl, fun _ h => by cases h⟩
  | _, n :: t, h => by
    cases h with
    | cons h1 h2 =>
      obtain ⟨ps, e1, e2, q⟩ := repL_tups h2
      refine ⟨(_, n) :: ps, by rw [e1]; rfl, by rw [e2]; rfl, fun q hq => ?_⟩
      rcases List.mem_cons.mp hq with e | hq
      · subst e; exact h1
      · exact ‹∀ q ∈ ps, Rep c L G q.1 (tupI q.2)› q hq
theorem repL_of : ∀ (ps : List (V × List Int)), (∀ q ∈ ps, Rep c L G q.1 (tupI q.2)) → RepL c L G (ps.map (·.1)) ((ps.map (·.2)).map tupI)
  | [], _ => .nil
  | p :: ps, h => .cons (h p List.mem_cons_self) (repL_of ps fun q hq => h q (List.mem_cons_of_mem _ hq))
theorem co_sorted : CallO c (fun vs H Q => rSortedI c.K vs H Q ∨ rSortedT c.K vs H Q) (F1 sortM) := by
  intro e W L T G H σ ρ vs ds Q S r p
  cases r with
  | nil => exact False.elim p
  | cons r1 r2 =>
    cases r2 with
    | cons _ _ => exact False.elim p
    | nil =>
      cases r1 with
      | @lst a vs ds h1 h2 h3 =>
        simp only [F1, sortM] at p
        cases q : intsOf ds with
        | some ns =>
          rw [q] at p
          have e1 := intsOf_some q
          subst e1
          rw [h2.ints] at h1
          refine .inl ⟨a, ns, rfl, .of (S.subS.lst h1), fun ns' a' hp hs ha => ?_⟩
          have e2 : ns' = isort ns := sorted_uniq (hp.trans (isort_perm ns).symm) hs (isort_sorted ns)
          subst e2
          refine PostO.newO p S (repL_ints _) ?_ a' ha
          rw [List.length_map, (isort_perm ns).length_eq]
          rw [List.length_map] at h3
          exact h3
        | none =>
          rw [q] at p
          cases q2 : tupsOf ds with
          | none => rw [q2] at p; exact False.elim p
          | some t =>
            rw [q2] at p
            dsimp only at p
            have e1 := tupsOf_some q2
            subst e1
            by_cases z : 2 ≤ t.length → ∀ ns ∈ t, ns ≠ []
            · rw [if_pos z] at p
              obtain ⟨ps, e2, e3, hq⟩ := repL_tups h2
              subst e2 e3
              refine .inr ⟨a, ps, rfl, .of (S.subS.lst h1), fun x hx => ?_, fun h2 x hx => z (by rw [List.length_map]; exact h2) _ (List.mem_map_of_mem hx), fun qs a' hp hs ha => ?_⟩
              · have rx := hq x hx
                generalize x.1 = v at rx ⊢
                cases rx with
                | tup k1 k2 k3 =>
                  rw [k2.ints] at k1
                  exact ⟨_, rfl, S.subS.sqT k1⟩
              · have e4 : qs.map (·.2) = tsort (ps.map (·.2)) := tsort_uniq ((hp.map (·.2)).trans (tsort_perm _).symm) hs (tsort_sorted _)
                rw [← e4] at p
                refine PostO.newO p S (repL_of qs fun x hx => hq x (hp.mem_iff.mp hx)) ?_ a' ha
                rw [List.length_map, List.length_map, hp.length_eq]
                rw [List.length_map, List.length_map] at h3
                exact h3
            · rw [if_neg z] at p; exact False.elim p
      | _ => exact False.elim p
end
/-- no star ahead of it -/
def NS (a : Expr) : Prop := ∀ (es : List Expr) (env : Env), starEach (a :: es) env = (false, eval a env) :: starEach es env
section
variable {X : Cx} {c : Cfg} {W : WX} {k : Nat} {a b : Expr} {es : List Expr} {fa fb : Ex} {fs : List Ex} {pos p : Pos} {x : Str}
theorem call_end {r : List V → Hp → VK → Prop} {F : List D → M D} (h : CallD c r F) {σ : L2.St} {H : Hp} {Q : VK} (q : tD c W (dCall F fs) σ H Q) : tCB r (tL c W (dArgs fs)) σ H Q := by
  refine (tG.one (R1 := RepL c) (f := dArgs fs) (k := fun ds _ => F ds) q).mono fun vs H1 q1 => ?_
  obtain ⟨e, L, T, G, ρ, ds, S, r, p⟩ := q1
  exact h e W L T G H1 σ ρ vs ds Q S r p
theorem callo_end {r : List V → Hp → VK → Prop} {F : List D → M (List D)} (h : CallO c r F) {σ : L2.St} {H : Hp} {Q : VK} (q : tO c W (oCall F fs) σ H Q) : tCB r (tL c W (dArgs fs)) σ H Q := by
  obtain ⟨e, L, T, G, ρ, S, p⟩ := q
  refine ⟨e, L, T, G, ρ, S, ?_⟩
  unfold oCall at p
  cases hr : dArgs fs ρ T with
  | bad => rw [bnd_bad hr] at p; exact p
  | exn k T' => rw [bnd_exn hr] at p; exact p
  | ok ds T' =>
    rw [bnd_ok hr] at p
    intro vs L' G' H' h1 h2 S' rv
    refine h e W L' T' G' H' σ ρ vs ds Q S' rv ?_
    revert p
    cases F ds T' with
    | bad => exact id
    | exn k t => exact fun p L2 G2 H2 h3 h4 => p L2 G2 H2 (h1.trans h3) (h2.trans h4)
    | ok ys t => exact fun p q L2 G2 H2 h3 h4 => p q L2 G2 H2 (h1.trans h3) (h2.trans h4)
theorem de_len (h : Ctx X c W k) (ha : PE X a (tD c W fa)) (ns : NS a := by intro _ _; rfl) (hg : Gl X "len" := by rfl) : PE X (.Call (.Name "len" p) [a] [] pos) (tD c W (dCall (F1 lenM) [fa])) :=
  (pe_callB call_len_seq hg h.bl.len PySem.boot_len (da_cons ha da_nil (ns _ _)) (he := ns _ _)).imp fun σ H Q q => call_end (h.hK ▸ cd_len) q
theorem de_all (h : Ctx X c W k) (ha : PE X a (tD c W fa)) (ns : NS a := by intro _ _; rfl) (hg : Gl X "all" := by rfl) : PE X (.Call (.Name "all" p) [a] [] pos) (tD c W (dCall (F1 allM) [fa])) :=
  (pe_callB (cr_all h.calm) hg h.bl.all (by decide +kernel) (da_cons ha da_nil (ns _ _)) (he := ns _ _)).imp fun σ H Q q => call_end (h.hK ▸ cd_all) q
theorem de_any (h : Ctx X c W k) (ha : PE X a (tD c W fa)) (ns : NS a := by intro _ _; rfl) (hg : Gl X "any" := by rfl) : PE X (.Call (.Name "any" p) [a] [] pos) (tD c W (dCall (F1 anyM) [fa])) :=
  (pe_callB (cr_any h.calm) hg h.bl.any (by decide +kernel) (da_cons ha da_nil (ns _ _)) (he := ns _ _)).imp fun σ H Q q => call_end (h.hK ▸ cd_any) q
theorem de_tuple (h : Ctx X c W k) (ha : PE X a (tD c W fa)) (ns : NS a := by intro _ _; rfl) (hg : Gl X "tuple" := by rfl) : PE X (.Call (.Name "tuple" p) [a] [] pos) (tD c W (dCall (F1 tupleM) [fa])) :=
  (pe_callTy call_tuple_of hg h.bl.tuple (by decide +kernel) (da_cons ha da_nil (ns _ _)) (he := ns _ _)).imp fun σ H Q q => call_end (h.hK ▸ cd_tuple) q
theorem do_list (h : Ctx X c W k) (ha : PE X a (tD c W fa)) (ns : NS a := by intro _ _; rfl) (hg : Gl X "list" := by rfl) : PE X (.Call (.Name "list" p) [a] [] pos) (tO c W (oCall (F1 listM) [fa])) :=
  (pe_callTy call_list_of hg h.bl.list (by decide +kernel) (da_cons ha da_nil (ns _ _)) (he := ns _ _)).imp fun σ H Q q => callo_end (h.hK ▸ co_list) q
theorem CallR.orr {f : Value} {r r' : List V → Hp → VK → Prop} (h : CallR X f r) (h' : CallR X f r') : CallR X f (fun vs H Q => r vs H Q ∨ r' vs H Q) := fun pins s σ H xs us Q I rv q => q.elim (h pins s σ H xs us Q I rv) (h' pins s σ H xs us Q I rv)
theorem do_sorted (h : Ctx X c W k) (ha : PE X a (tD c W fa)) (ns : NS a := by intro _ _; rfl) (hg : Gl X "sorted" := by rfl) : PE X (.Call (.Name "sorted" p) [a] [] pos) (tO c W (oCall (F1 sortM) [fa])) :=
  (pe_callB (CallR.orr cr_sortedI cr_sortedT) hg h.bl.sorted (by decide +kernel) (da_cons ha da_nil (ns _ _)) (he := ns _ _)).imp fun σ H Q q => callo_end (h.hK ▸ co_sorted) q
def tyName : D → String
  | .non => "NoneType"
  | .bl _ => "bool"
  | .int _ => "int"
  | .str _ => "str"
  | .lst _ => "list"
  | .tup _ => "tuple"
  | _ => "?"
theorem rep_ty {e : Gh} {L : List (List Addr)} {T : List Cell} {G H : Hp} {σ : L2.St} {ρ : En} {v : V} {d : D} (S : Sta c e L T G H σ ρ) (r : Rep c L G v d) (hd : tyName d ≠ "?") : TyX c.K H v (.type (tyName d)) := by
  cases r with
  | non => exact .base .non
  | bl b => exact .base (.bl b)
  | int i => exact .base (.int i)
  | str s _ => exact .base (.str s)
  | lst h1 h2 h3 => exact .base (.lst (S.subS.lst h1))
  | tup h1 h2 h3 =>
    rcases S.subS.sqT h1 with (h | ⟨o, h⟩) | ⟨o, its, n, h, hc, _⟩
    · exact .base (.tup h)
    · exact .fTuple h
    · exact .kTuple h hc
  | _ => exact absurd rfl hd
theorem de_isi {Ty : String} {Tn : Str} {p2 : Pos} (h : Ctx X c W k) (ha : PE X a (tD c W fa)) (hT : bootBuiltins Tn = some (.type Ty)) (hm : X.mg Tn = none)
    (hk : ∀ d, tyName d ≠ "?" → ∃ b, kitB (tyName d) Ty = some b ∧ isiD Ty d = M.ret (.bl b)) (hn : Tn ≠ "__name__" := by decide) (hd : (Tn == ("__debug__" : Str)) = false := by decide) (hg : Gl X "isinstance" := by rfl) (hg2 : Gl X Tn := by rfl)
    (ns : NS a := by intro _ _; rfl) :
    PE X (.Call (.Name "isinstance" p) [a, .Name Tn p2] [] pos) (tD c W (d1 (isiD Ty) fa)) := by
  refine (pe_callB call_isi hg h.bl.isi (by decide +kernel) (pa_cons ha (pa_cons (pe_bltn hg2 hm hT (v := .ty Ty) rfl hn hd) pa_nil) (ns _ _)) (he := ns _ _)).imp fun σ H Q q => ?_
  refine (tD_one q).mono fun v H1 q1 => ?_
  obtain ⟨e, L, T, G, ρ, d, S, r, p⟩ := q1
  by_cases z : tyName d = "?"
  · cases d with
    | dct _ _ => exact p.bad
    | exc _ => exact p.bad
    | cell _ => exact p.bad
    | _ => exact absurd z (by simp [tyName])
  · obtain ⟨b, h1, h2⟩ := hk d z
    rw [h2] at p
    exact ⟨v, .ty Ty, .type (tyName d), .type Ty, b, rfl, .ty Ty, h.hK ▸ rep_ty S r z, kit_ty h1, p.val S (.bl _)⟩
theorem isi_int : ∀ d, tyName d ≠ "?" → ∃ b, kitB (tyName d) "int" = some b ∧ isiD "int" d = M.ret (.bl b)
  | .non, _ => ⟨false, by (dsimp only [tyName]; decide +kernel), rfl⟩
  | .bl _, _ => ⟨true, by (dsimp only [tyName]; decide +kernel), rfl⟩
  | .int _, _ => ⟨true, by (dsimp only [tyName]; decide +kernel), rfl⟩
  | .str _, _ => ⟨false, by (dsimp only [tyName]; decide +kernel), rfl⟩
  | .lst _, _ => ⟨false, by (dsimp only [tyName]; decide +kernel), rfl⟩
  | .tup _, _ => ⟨false, by (dsimp only [tyName]; decide +kernel), rfl⟩
  | .dct _ _, h => absurd rfl h
  | .exc _, h => absurd rfl h
  | .cell _, h => absurd rfl h
theorem isi_bool : ∀ d, tyName d ≠ "?" → ∃ b, kitB (tyName d) "bool" = some b ∧ isiD "bool" d = M.ret (.bl b)
  | .non, _ => ⟨false, by (dsimp only [tyName]; decide +kernel), rfl⟩
  | .bl _, _ => ⟨true, by (dsimp only [tyName]; decide +kernel), rfl⟩
  | .int _, _ => ⟨false, by (dsimp only [tyName]; decide +kernel), rfl⟩
  | .str _, _ => ⟨false, by (dsimp only [tyName]; decide +kernel), rfl⟩
  | .lst _, _ => ⟨false, by (dsimp only [tyName]; decide +kernel), rfl⟩
  | .tup _, _ => ⟨false, by (dsimp only [tyName]; decide +kernel), rfl⟩
  | .dct _ _, h => absurd rfl h
  | .exc _, h => absurd rfl h
  | .cell _, h => absurd rfl h
theorem isi_str : ∀ d, tyName d ≠ "?" → ∃ b, kitB (tyName d) "str" = some b ∧ isiD "str" d = M.ret (.bl b)
  | .non, _ => ⟨false, by (dsimp only [tyName]; decide +kernel), rfl⟩
  | .bl _, _ => ⟨false, by (dsimp only [tyName]; decide +kernel), rfl⟩
  | .int _, _ => ⟨false, by (dsimp only [tyName]; decide +kernel), rfl⟩
  | .str _, _ => ⟨true, by (dsimp only [tyName]; decide +kernel), rfl⟩
  | .lst _, _ => ⟨false, by (dsimp only [tyName]; decide +kernel), rfl⟩
  | .tup _, _ => ⟨false, by (dsimp only [tyName]; decide +kernel), rfl⟩
  | .dct _ _, h => absurd rfl h
  | .exc _, h => absurd rfl h
  | .cell _, h => absurd rfl h
theorem isi_list : ∀ d, tyName d ≠ "?" → ∃ b, kitB (tyName d) "list" = some b ∧ isiD "list" d = M.ret (.bl b)
  | .non, _ => ⟨false, by (dsimp only [tyName]; decide +kernel), rfl⟩
  | .bl _, _ => ⟨false, by (dsimp only [tyName]; decide +kernel), rfl⟩
  | .int _, _ => ⟨false, by (dsimp only [tyName]; decide +kernel), rfl⟩
  | .str _, _ => ⟨false, by (dsimp only [tyName]; decide +kernel), rfl⟩
  | .lst _, _ => ⟨true, by (dsimp only [tyName]; decide +kernel), rfl⟩
  | .tup _, _ => ⟨false, by (dsimp only [tyName]; decide +kernel), rfl⟩
  | .dct _ _, h => absurd rfl h
  | .exc _, h => absurd rfl h
  | .cell _, h => absurd rfl h
theorem isi_tuple : ∀ d, tyName d ≠ "?" → ∃ b, kitB (tyName d) "tuple" = some b ∧ isiD "tuple" d = M.ret (.bl b)
  | .non, _ => ⟨false, by (dsimp only [tyName]; decide +kernel), rfl⟩
  | .bl _, _ => ⟨false, by (dsimp only [tyName]; decide +kernel), rfl⟩
  | .int _, _ => ⟨false, by (dsimp only [tyName]; decide +kernel), rfl⟩
  | .str _, _ => ⟨false, by (dsimp only [tyName]; decide +kernel), rfl⟩
  | .lst _, _ => ⟨false, by (dsimp only [tyName]; decide +kernel), rfl⟩
  | .tup _, _ => ⟨true, by (dsimp only [tyName]; decide +kernel), rfl⟩
  | .dct _ _, h => absurd rfl h
  | .exc _, h => absurd rfl h
  | .cell _, h => absurd rfl h
theorem de_isi_int {p2 : Pos} (h : Ctx X c W k) (ha : PE X a (tD c W fa)) (hg : Gl X "isinstance" := by rfl) (hg2 : Gl X "int" := by rfl) (ns : NS a := by intro _ _; rfl) :
    PE X (.Call (.Name "isinstance" p) [a, .Name "int" p2] [] pos) (tD c W (d1 (isiD "int") fa)) := de_isi h ha (by decide +kernel) h.bl.int isi_int (by decide) (by decide) hg hg2 ns
theorem de_isi_bool {p2 : Pos} (h : Ctx X c W k) (ha : PE X a (tD c W fa)) (hg : Gl X "isinstance" := by rfl) (hg2 : Gl X "bool" := by rfl) (ns : NS a := by intro _ _; rfl) :
    PE X (.Call (.Name "isinstance" p) [a, .Name "bool" p2] [] pos) (tD c W (d1 (isiD "bool") fa)) := de_isi h ha (by decide +kernel) h.bl.bool isi_bool (by decide) (by decide) hg hg2 ns
theorem de_isi_str {p2 : Pos} (h : Ctx X c W k) (ha : PE X a (tD c W fa)) (hg : Gl X "isinstance" := by rfl) (hg2 : Gl X "str" := by rfl) (ns : NS a := by intro _ _; rfl) :
    PE X (.Call (.Name "isinstance" p) [a, .Name "str" p2] [] pos) (tD c W (d1 (isiD "str") fa)) := de_isi h ha (by decide +kernel) h.bl.str isi_str (by decide) (by decide) hg hg2 ns
theorem de_isi_list {p2 : Pos} (h : Ctx X c W k) (ha : PE X a (tD c W fa)) (hg : Gl X "isinstance" := by rfl) (hg2 : Gl X "list" := by rfl) (ns : NS a := by intro _ _; rfl) :
    PE X (.Call (.Name "isinstance" p) [a, .Name "list" p2] [] pos) (tD c W (d1 (isiD "list") fa)) := de_isi h ha (by decide +kernel) h.bl.list isi_list (by decide) (by decide) hg hg2 ns
theorem de_isi_tuple {p2 : Pos} (h : Ctx X c W k) (ha : PE X a (tD c W fa)) (hg : Gl X "isinstance" := by rfl) (hg2 : Gl X "tuple" := by rfl) (ns : NS a := by intro _ _; rfl) :
    PE X (.Call (.Name "isinstance" p) [a, .Name "tuple" p2] [] pos) (tD c W (d1 (isiD "tuple") fa)) := de_isi h ha (by decide +kernel) h.bl.tuple isi_tuple (by decide) (by decide) hg hg2 ns
end
/-- behind a call -/
structure After (c : Cfg) (L : List (List Addr)) (G H : Hp) (L' : List (List Addr)) (T' : List Cell) (G' H' : Hp) : Prop where
  le : LE L L'
  ge : Same G G'
  sub : Sub G' H'
  store : StoreRep H' L' T'
  ldist : L'.flatten.Nodup
  lfree : ∀ a ∈ L'.flatten, G' a = none
  same : ∀ a o, H a = some o → a ∉ L.flatten → H' a = some o
  lnew : ∀ a ∈ L'.flatten, a ∈ L.flatten ∨ H a = none
  lthere : ∀ a ∈ L.flatten, H' a ≠ none
  gnew : ∀ a, G' a ≠ none → G a ≠ none ∨ H a = none
  lkeep : ∀ a ∈ L.flatten, G' a = none
/-- a def's promise: it does on data what F does -/
def spF (c : Cfg) (n : Nat) (F : List D → M D) : Sp := fun vs H Q E => vs.length = n ∧ ∃ L T G ds, Sub G H ∧ StoreRep H L T ∧ L.flatten.Nodup ∧ (∀ a ∈ L.flatten, G a = none) ∧ RepL c L G vs ds ∧
  match F ds T with
  | .ok d T' => ∀ v L' G' H', After c L G H L' T' G' H' → Rep c L' G' v d → Q v H'
  | .exn k T' => ∀ L' G' H', After c L G H L' T' G' H' → E (.ref (c.CA k)) none H'
  | .bad => False
structure Fn (c : Cfg) (mg : Str → Option Value) (base : Heap) (x : Str) (ps : List Str) (k : Nat) (F : List D → M D) : Prop where
  ex : ∃ f fd, mg x = some (.ref f) ∧ PySem.W.keepIn c.K (.ref f) = true ∧ Binds c.K fd ps [] ∧ FnOk c.P c.w c.K mg base (L2.CX c.P c.w) k f fd ps (spF c ps.length F)
section
variable {c : Cfg} {e : Gh} {L L' : List (List Addr)} {G H G' H' : Hp} {T T' : List Cell} {σ : L2.St} {ρ : En}
theorem Sta.after (S : Sta c e L T G H σ ρ) (P : After c L G H L' T' G' H') : Sta c e L' T' G' H' σ ρ := by
  have h0 : ∀ a, a ∈ L.flatten → e.H0 a ≠ none → a ∉ e.L0.flatten → False := fun a h1 h2 h3 => (S.lmem0 a h1).elim h3 h2
  have own : ∀ {p : Addr} {o : HO}, H p = some o → G p = none → p ∉ L.flatten → H' p = some o ∧ G' p = none ∧ p ∉ L'.flatten := fun {p o} h1 h2 h3 => by
    refine ⟨P.same _ _ h1 h3, ?_, fun z => ?_⟩
    · cases q : G' p with
      | none => rfl
      | some u =>
        rcases P.gnew p (by rw [q]; simp) with z | z
        · exact absurd h2 z
        · rw [h1] at z; cases z
    · rcases P.lnew p z with y | y
      · exact h3 y
      · rw [h1] at y; cases y
  refine ⟨P.sub, fun a o ha hl => ?_, P.store, P.ldist, P.lfree, fun a ha => ?_, fun a ha => ?_, fun a ha => ?_, fun a ha => ?_, S.l0h, S.len, fun i sv hi => ?_, fun q hq => ?_, S.disj⟩
  · have nl : a ∉ L.flatten := fun z => h0 a z (by rw [ha]; simp) hl
    obtain ⟨z1, z2⟩ := S.same a o ha hl
    refine ⟨fun m => P.same _ _ (z1 m) nl, fun m => ?_⟩
    obtain ⟨ob, z⟩ := z2 m
    exact ⟨ob, P.same _ _ z nl⟩
  · rcases P.lnew a ha with z | z
    · exact S.lmem0 a z
    · by_cases m : a ∈ e.L0.flatten
      · exact .inl m
      · refine .inr ?_
        cases q : e.H0 a with
        | none => rfl
        | some o =>
          obtain ⟨z1, z2⟩ := S.same a o q m
          by_cases lk : a ∈ e.lk
          · obtain ⟨ob, y⟩ := z2 lk
            rw [z] at y; cases y
          · rw [z1 lk] at z; cases z
  · cases q : G' a with
    | none => rfl
    | some u =>
      rcases P.gnew a (by rw [q]; simp) with z | z
      · exact absurd (S.l0free a ha) z
      · exact absurd z (S.l0there a ha)
  · rcases P.gnew a ha with z | z
    · exact S.gnew a z
    · by_cases m : a ∈ e.L0.flatten
      · exact absurd z (S.l0there a m)
      · refine .inr ?_
        cases q : e.H0 a with
        | none => rfl
        | some o =>
          obtain ⟨z1, z2⟩ := S.same a o q m
          by_cases lk : a ∈ e.lk
          · obtain ⟨ob, y⟩ := z2 lk
            rw [z] at y; cases y
          · rw [z1 lk] at z; cases z
  · by_cases m : a ∈ L.flatten
    · exact P.lthere a m
    · have q := S.l0there a ha
      cases q2 : H a with
      | none => exact absurd q2 q
      | some o => rw [P.same a o q2 m]; simp
  · obtain ⟨v, h1, h2⟩ := S.slot i sv hi
    refine ⟨v, h1, ?_⟩
    cases sv with
    | d x => exact h2.up P.le P.ge
    | ol ds =>
      obtain ⟨p, vs, rfl, h3, h4, h5, h6, h7, h8⟩ := h2
      obtain ⟨k1, k2, k3⟩ := own h3 h6 h7
      exact ⟨p, vs, rfl, k1, h4.up P.le P.ge, h5, k2, k3, h8⟩
    | od ks vs =>
      obtain ⟨p, o, rfl, h3, h4, h6, h7, h8⟩ := h2
      obtain ⟨k1, k2, k3⟩ := own h3 h6 h7
      exact ⟨p, o, rfl, k1, h4.mono P.le P.ge, k2, k3, h8⟩
  · obtain ⟨h1, h2, h3, h4⟩ := S.xown q hq
    obtain ⟨k1, k2, k3⟩ := own h1 h2 h3
    exact ⟨k1, k2, k3, h4⟩
end
section
variable {X : Cx} {c : Cfg} {W : WX} {k j : Nat} {a b : Expr} {es : List Expr} {fa : Ex} {fs : List Ex} {pos p : Pos} {x : Str} {ps : List Str} {F : List D → M D}
theorem fn_end {σ : L2.St} {H : Hp} {Q : VK} (hl : fs.length = ps.length) (q : tD c W (dCall F fs) σ H Q) (ht : ∀ ρ T ds T', dArgs fs ρ T = .ok ds T' → ds.length = fs.length) : tCallS (spF c ps.length F) (WE W) (tL c W (dArgs fs)) σ H Q := by
  obtain ⟨e, L, T, G, ρ, S, p⟩ := q
  refine ⟨e, L, T, G, ρ, S, ?_⟩
  unfold dCall at p
  cases hr : dArgs fs ρ T with
  | bad => rw [bnd_bad hr] at p; exact p
  | exn k T' => rw [bnd_exn hr] at p; exact p
  | ok ds T' =>
    rw [bnd_ok hr] at p
    intro vs L' G' H' h1 h2 S' rv
    refine ⟨by rw [rv.length, ht _ _ _ _ hr, hl], L', T', G', ds, S'.subS, S'.store, S'.ldist, S'.lfree, rv, ?_⟩
    revert p
    cases F ds T' with
    | bad => exact id
    | exn k t => exact fun p L2 G2 H2 P => p L2 G2 H2 (h1.trans P.le) (h2.trans P.ge) (S'.after P)
    | ok y t => exact fun p v L2 G2 H2 P r => p v L2 G2 H2 (h1.trans P.le) (h2.trans P.ge) (S'.after P) r
theorem dArgs_length : ∀ (fs : List Ex) (ρ : En) (T : List Cell) (ds : List D) (T' : List Cell), dArgs fs ρ T = .ok ds T' → ds.length = fs.length
  | [], _, _, ds, _, h => by
    cases h; rfl
  | f :: fs, ρ, T, ds, T', h => by
    unfold dArgs at h
    cases h1 : f ρ T with
    | bad => rw [bnd_bad h1] at h; cases h
    | exn k t => rw [bnd_exn h1] at h; cases h
    | ok d t =>
      rw [bnd_ok h1] at h
      cases h2 : dArgs fs ρ t with
      | bad => rw [bnd_bad h2] at h; cases h
      | exn k t => rw [bnd_exn h2] at h; cases h
      | ok r t2 =>
        rw [bnd_ok h2] at h
        cases h
        rw [List.length_cons, List.length_cons, dArgs_length fs ρ t r _ h2]
/-- f(e, ..), a def of the text -/
theorem de_fn (h : Ctx X c W k) (C : Fn c X.mg X.base x ps j F) (ha : PA X (a :: es) (tL c W (dArgs fs))) (hl : fs.length = ps.length := by rfl) (hj : j ≤ k := by decide) (hg : Gl X x := by rfl) (hdb : (x == ("__debug__" : Str)) = false := by decide)
    (ns : NS a := by intro _ _; rfl) (hpl : (backTo pos (starEach es X.env)).any (·.1) = false := by rfl) :
    PE X (.Call (.Name x p) (a :: es) [] pos) (tD c W (dCall F fs)) := by
  obtain ⟨f, fd, h1, h2, h3, h4⟩ := C.ex
  have h4' : FnOk X.prog X.w X.K X.mg X.base (L2.CX X.prog X.w) j f fd ps (spF c ps.length F) := by rw [h.hP, h.hw, h.hK]; exact h4
  have h3' : Binds X.K fd ps [] := by rw [h.hK]; exact h3
  have h2' : PySem.W.keepIn X.K (.ref f) = true := by rw [h.hK]; exact h2
  exact (pe_callS h4' (h.room.mono hj) hg h1 h2' h3' (fun σ => passAt h.tk σ) ha hdb (ns _ _) hpl).imp fun σ H Q q => fn_end hl q (dArgs_length fs)
end
end WW
set_option maxHeartbeats 1000000
namespace WW
open PySem PySem.Spec PyProof.Rows L2
inductive Fl where
  | nx (ρ : En) | rt (d : D) | bk (ρ : En) | ct (ρ : En)
abbrev Sx := En → M Fl
def PostS (c : Cfg) (e : Gh) (W : WX) (L : List (List Addr)) (G : Hp) (r : Rs Fl) (D : Ends) : Prop := match r with
  | .ok (.nx ρ') T' => ∀ L' G' H' σ', LE L L' → Same G G' → Sta c e L' T' G' H' σ' ρ' → D.nx σ' H'
  | .ok (.bk ρ') T' => ∀ L' G' H' σ', LE L L' → Same G G' → Sta c e L' T' G' H' σ' ρ' → D.bk σ' H'
  | .ok (.ct ρ') T' => ∀ L' G' H' σ', LE L L' → Same G G' → Sta c e L' T' G' H' σ' ρ' → D.ct σ' H'
  | .ok (.rt d) T' => ∀ v L' G' H' σ' ρ', LE L L' → Same G G' → Sta c e L' T' G' H' σ' ρ' → Rep c L' G' v d → D.rt v H'
  | .exn k T' => ∀ L' G' H' σ' ρ', LE L L' → Same G G' → Sta c e L' T' G' H' σ' ρ' → W (.ref (c.CA k)) none σ' H'
  | .bad => False
def tS (c : Cfg) (W : WX) (f : Sx) : TS := fun D σ H => ∃ e L T G ρ, Sta c e L T G H σ ρ ∧ PostS c e W L G (f ρ T) D
theorem PostS.up {c : Cfg} {e : Gh} {W : WX} {L L1 : List (List Addr)} {G G1 : Hp} {r : Rs Fl} {D : Ends} (h : PostS c e W L G r D) (hL : LE L L1) (hG : Same G G1) : PostS c e W L1 G1 r D := by
  cases r with
  | bad => exact h
  | exn k T' => exact fun L' G' H' σ' ρ' h1 h2 S => h L' G' H' σ' ρ' (hL.trans h1) (hG.trans h2) S
  | ok f T' =>
    cases f with
    | nx ρ' => exact fun L' G' H' σ' h1 h2 S => h L' G' H' σ' (hL.trans h1) (hG.trans h2) S
    | bk ρ' => exact fun L' G' H' σ' h1 h2 S => h L' G' H' σ' (hL.trans h1) (hG.trans h2) S
    | ct ρ' => exact fun L' G' H' σ' h1 h2 S => h L' G' H' σ' (hL.trans h1) (hG.trans h2) S
    | rt d => exact fun v L' G' H' σ' ρ' h1 h2 S r => h v L' G' H' σ' ρ' (hL.trans h1) (hG.trans h2) S r
def sNil : Sx := fun ρ => M.ret (.nx ρ)
def onNx (t : Sx) : Fl → M Fl
  | .nx ρ' => t ρ'
  | f => M.ret f
def sSeq (s t : Sx) : Sx := fun ρ => s ρ >>= onNx t
def sIf (c : Tx) (s t : Sx) : Sx := fun ρ => c ρ >>= fun b => if b = true then s ρ else t ρ
def putE (ρ : En) (i : Nat) (d : D) : En := ρ.set i (some (.d d))
def sSet (i : Nat) (f : Ex) : Sx := fun ρ => f ρ >>= fun d => M.ret (.nx (putE ρ i d))
def sSetO (i : Nat) (f : Ox) : Sx := fun ρ => f ρ >>= fun ds => M.ret (.nx (ρ.set i (some (.ol ds))))
def sExpr (f : Ex) : Sx := fun ρ => f ρ >>= fun _ => M.ret (.nx ρ)
def sRet (f : Ex) : Sx := fun ρ => f ρ >>= fun d => M.ret (.rt d)
def sRetN : Sx := fun _ => M.ret (.rt .non)
def sRaise (k : Nat) : Sx := fun _ => M.rais k
def sBrk : Sx := fun ρ => M.ret (.bk ρ)
def sCnt : Sx := fun ρ => M.ret (.ct ρ)
/-- a list of the def's own becomes plain data -/
def frzE (i : Nat) (ρ : En) : En := match ρ[i]? with
  | some (some (.ol ds)) => ρ.set i (some (.d (.lst ds)))
  | some (some (.od ks vs)) => ρ.set i (some (.d (.dct ks vs)))
  | _ => ρ
def sFrz (i : Nat) (s : Sx) : Sx := fun ρ => s (frzE i ρ)
def setsE : List Nat → List D → En → En
  | i :: is, d :: ds, ρ => setsE is ds (putE ρ i d)
  | _, _, ρ => ρ
def sUnp (is : List Nat) (f : Ex) : Sx := fun ρ => f ρ >>= fun d => match d with
  | .tup ds => if ds.length = is.length then M.ret (.nx (setsE is ds ρ)) else M.fail
  | _ => M.fail
def sApp (i : Nat) (f : Ex) : Sx := fun ρ => match ρ[i]? with
  | some (some (.ol ds)) => f ρ >>= fun d => if ds.length < sizeLine then M.ret (.nx (ρ.set i (some (.ol (ds ++ [d]))))) else M.fail
  | _ => M.fail
section
variable {c : Cfg} {e : Gh} {W : WX} {σ : L2.St} {ρ : En} {L : List (List Addr)} {G H : Hp} {T : List Cell}
theorem get_set {α : Type} {l : List α} {i j : Nat} {x y : α} (h : (l.set i x)[j]? = some y) : (j = i ∧ y = x) ∨ (j ≠ i ∧ l[j]? = some y) := by
  by_cases e : j = i
  · subst e
    by_cases z : j < l.length
    · rw [List.getElem?_set_self z] at h
      exact .inl ⟨rfl, (Option.some.inj h).symm⟩
    · rw [List.getElem?_eq_none (by simpa using z)] at h
      cases h
  · rw [List.getElem?_set_ne (Ne.symm e)] at h
    exact .inr ⟨e, h⟩
theorem set_lt {α : Type} {l : List α} {i : Nat} {x y : α} (h : (l.set i x)[i]? = some y) : i < l.length := by
  by_cases z : i < l.length
  · exact z
  · rw [List.getElem?_eq_none (by simpa using z)] at h
    cases h
/-- a slot gets data -/
theorem Sta.put (S : Sta c e L T G H σ ρ) {i : Nat} {v : V} {d : D} (r : Rep c L G v d) : Sta c e L T G H (σ.set i (some v)) (putE ρ i d) := by
  have ln := S.len
  unfold putE
  refine ⟨S.sub, S.same, S.store, S.ldist, S.lfree, S.lmem0, S.l0free, S.gnew, S.l0there, S.l0h, by rw [List.length_set, List.length_set, S.len], fun j sv h => ?_, fun q hq => ?_, fun j k x y hjk hj hk ox oy => ?_⟩
  · have h' := h
    rcases get_set h with ⟨rfl, e1⟩ | ⟨hj, h⟩
    · cases e1
      have lt := set_lt h'
      exact ⟨v, by rw [List.getElem?_set_self (by omega)], r⟩
    · obtain ⟨u, h1, h2⟩ := S.slot j sv h
      exact ⟨u, by rw [List.getElem?_set_ne (Ne.symm hj)]; exact h1, h2⟩
  · obtain ⟨h1, h2, h3, h4, h5, h6⟩ := S.xown q hq
    refine ⟨h1, h2, h3, h4, h5, fun j sv h ow => ?_⟩
    rcases get_set h with ⟨rfl, e1⟩ | ⟨hj, h⟩
    · cases e1; exact ow.elim
    · rw [List.getElem?_set_ne (Ne.symm hj)]; exact h6 j sv h ow
  · rcases get_set hj with ⟨rfl, e1⟩ | ⟨n1, h1⟩
    · cases e1; exact ox.elim
    · rcases get_set hk with ⟨rfl, e2⟩ | ⟨n2, h2⟩
      · cases e2; exact oy.elim
      · rw [List.getElem?_set_ne (Ne.symm n1), List.getElem?_set_ne (Ne.symm n2)]
        exact S.disj j k x y hjk h1 h2 ox oy
/-- a slot gets a list of its own -/
theorem Sta.putO (S : Sta c e L T G H σ ρ) {i : Nat} {p : Addr} {ds : List D} (fr : FreshL c e L G H σ ρ p ds) : Sta c e L T G H (σ.set i (some (.ref p))) (ρ.set i (some (.ol ds))) := by
  have ln := S.len
  obtain ⟨vs, hv, rv, hz⟩ := fr.at_
  refine ⟨S.sub, S.same, S.store, S.ldist, S.lfree, S.lmem0, S.l0free, S.gnew, S.l0there, S.l0h, by rw [List.length_set, List.length_set, S.len], fun j sv h => ?_, fun q hq => ?_, fun j k x y hjk hj hk ox oy => ?_⟩
  · have h' := h
    rcases get_set h with ⟨rfl, e1⟩ | ⟨hj, h⟩
    · cases e1
      have lt := set_lt h'
      exact ⟨.ref p, by rw [List.getElem?_set_self (by omega)], p, vs, rfl, hv, rv, hz, fr.g, fr.l, fr.h0⟩
    · obtain ⟨u, h1, h2⟩ := S.slot j sv h
      exact ⟨u, by rw [List.getElem?_set_ne (Ne.symm hj)]; exact h1, h2⟩
  · obtain ⟨h1, h2, h3, h4, h5, h6⟩ := S.xown q hq
    refine ⟨h1, h2, h3, h4, h5, fun j sv h ow => ?_⟩
    have h' := h
    rcases get_set h with ⟨rfl, e1⟩ | ⟨hj, h⟩
    · have lt := set_lt h'
      rw [List.getElem?_set_self (by omega)]
      intro z
      cases z
      exact fr.xo q hq rfl
    · rw [List.getElem?_set_ne (Ne.symm hj)]; exact h6 j sv h ow
  · have hj' := hj
    have hk' := hk
    rcases get_set hj with ⟨rfl, e1⟩ | ⟨n1, h1⟩
    · have lt := set_lt hj'
      rcases get_set hk with ⟨rfl, e2⟩ | ⟨n2, h2⟩
      · exact absurd rfl hjk
      · rw [List.getElem?_set_self (by omega), List.getElem?_set_ne (Ne.symm n2)]
        exact fun z => fr.sl k y h2 oy z.symm
    · rcases get_set hk with ⟨rfl, e2⟩ | ⟨n2, h2⟩
      · have lt := set_lt hk'
        rw [List.getElem?_set_self (by omega), List.getElem?_set_ne (Ne.symm n1)]
        exact fun z => fr.sl j x h1 ox z
      · rw [List.getElem?_set_ne (Ne.symm n1), List.getElem?_set_ne (Ne.symm n2)]
        exact S.disj j k x y hjk h1 h2 ox oy
/-- a slot of data is read no more as what it was -/
theorem Sta.relabel (S : Sta c e L T G H σ ρ) {i : Nat} {v : V} {d : D} (hv : σ[i]? = some (some v)) (r : Rep c L G v d) : Sta c e L T G H σ (putE ρ i d) := by
  have q := S.put (i := i) r
  have e1 : σ.set i (some v) = σ := by
    apply List.ext_getElem?
    intro j
    by_cases z : j = i
    · subst z
      have lt : j < σ.length := (List.getElem?_eq_some_iff.mp hv).1
      rw [List.getElem?_set_self lt, hv]
    · rw [List.getElem?_set_ne (Ne.symm z)]
  rw [e1] at q
  exact q
theorem Sta.nl0 (S : Sta c e L T G H σ ρ) {p : Addr} (h : e.H0 p = none) : p ∉ e.L0.flatten := fun z => S.l0h p z h
theorem Sta.forget (S : Sta c e L T G H σ ρ) (i : Nat) : Sta c e L T G H σ (ρ.set i none) := by
  refine ⟨S.sub, S.same, S.store, S.ldist, S.lfree, S.lmem0, S.l0free, S.gnew, S.l0there, S.l0h, by rw [List.length_set, S.len], fun j sv h => ?_, fun q hq => ?_, fun j k x y hjk hj hk ox oy => ?_⟩
  · rcases get_set h with ⟨rfl, e1⟩ | ⟨hj, h⟩
    · cases e1
    · exact S.slot j sv h
  · obtain ⟨h1, h2, h3, h4, h5, h6⟩ := S.xown q hq
    refine ⟨h1, h2, h3, h4, h5, fun j sv h ow => ?_⟩
    rcases get_set h with ⟨rfl, e1⟩ | ⟨hj, h⟩
    · cases e1
    · exact h6 j sv h ow
  · rcases get_set hj with ⟨rfl, e1⟩ | ⟨n1, h1⟩
    · cases e1
    · rcases get_set hk with ⟨rfl, e2⟩ | ⟨n2, h2⟩
      · cases e2
      · exact S.disj j k x y hjk h1 h2 ox oy
theorem frz_core (S : Sta c e L T G H σ ρ) {i : Nat} {sv : SV} {p : Addr} {o : HO} {d : D} (hi : ρ[i]? = some (some sv)) (ow : Own sv) (hv : σ[i]? = some (some (.ref p))) (hp : H p = some o) (hg : G p = none) (hl : p ∉ L.flatten) (h0 : e.H0 p = none)
    (r : Rep c L (upd G p o) (.ref p) d) : ∃ G', Same G G' ∧ Sta c e L T G' H σ (putE ρ i d) := by
  have S1 := S.forget i
  have S2 := S1.freeze hp hg hl (S.nl0 h0) h0 (fun q hq z => (S.xown q hq).2.2.2.2.2 i sv hi ow (by rw [hv, z])) fun j sv' h ow' z => by
    rcases get_set h with ⟨rfl, e1⟩ | ⟨hj, h⟩
    · cases e1
    · exact S.disj j i sv' sv hj h hi ow' ow (by rw [z, hv])
  refine ⟨upd G p o, same_upd hg, ?_⟩
  have S3 := S2.relabel (i := i) hv r
  have e1 : putE (ρ.set i none) i d = putE ρ i d := by unfold putE; rw [List.set_set]
  rw [e1] at S3
  exact S3
theorem Sta.frz (S : Sta c e L T G H σ ρ) (i : Nat) : ∃ G', Same G G' ∧ Sta c e L T G' H σ (frzE i ρ) := by
  rcases h : ρ[i]? with _ | _ | sv
  · exact ⟨G, Same.refl _, by simp only [frzE, h]; exact S⟩
  · exact ⟨G, Same.refl _, by simp only [frzE, h]; exact S⟩
  · cases sv with
    | d x => exact ⟨G, Same.refl _, by simp only [frzE, h]; exact S⟩
    | ol ds =>
      obtain ⟨v, hv, p, vs, rfl, hp, rv, hz, hg, hl, h0⟩ := S.slot i _ h
      simp only [frzE, h]
      exact frz_core S h trivial hv hp hg hl h0 (.lst upd_same (rv.up (LE.refl _) (same_upd hg)) hz)
    | od ks vs =>
      obtain ⟨v, hv, p, o, rfl, hp, dr, hg, hl, h0⟩ := S.slot i _ h
      simp only [frzE, h]
      exact frz_core S h trivial hv hp hg hl h0 ((dr.mono (LE.refl _) (same_upd hg)).rep upd_same)
end
section
variable {X : Cx} {c : Cfg} {W : WX} {k : Nat} {a b : Expr} {st : Stmt} {sts sts' : List Stmt} {fa fb : Ex} {f g : Sx} {t : Tx} {pos pos' : Pos} {x : Str}
theorem ds_nil : PSs X [] (tS c W sNil) := pss_nil.imp fun D σ H ⟨e, L, T, G, ρ, S, p⟩ => p L G H σ (LE.refl _) (Same.refl _) S
theorem seq_end {D : Ends} {σ : L2.St} {H : Hp} (q : tS c W (sSeq f g) D σ H) : tSeq (tS c W f) (tS c W g) D σ H := by
  obtain ⟨e, L, T, G, ρ, S, p⟩ := q
  refine ⟨e, L, T, G, ρ, S, ?_⟩
  unfold sSeq at p
  cases hr : f ρ T with
  | bad => rw [bnd_bad hr] at p; exact p
  | exn k T' => rw [bnd_exn hr] at p; exact p
  | ok fl T' =>
    rw [bnd_ok hr] at p
    cases fl with
    | nx ρ' => exact fun L' G' H' σ' h1 h2 S' => ⟨e, L', T', G', ρ', S', PostS.up p h1 h2⟩
    | bk ρ' => exact p
    | ct ρ' => exact p
    | rt d => exact p
theorem ds_cons (h1 : PS X st (tS c W f)) (h2 : PSs X sts (tS c W g)) : PSs X (st :: sts) (tS c W (sSeq f g)) := (pss_cons h1 h2).imp fun D σ H q => seq_end q
theorem ds_one (h1 : PS X st (tS c W f)) : PSs X [st] (tS c W f) := pss_one h1
theorem ds_frz (i : Nat) (h : PS X st (tS c W f)) : PS X st (tS c W (sFrz i f)) := h.imp fun D σ H ⟨e, L, T, G, ρ, S, p⟩ => by
  obtain ⟨G', hg, S'⟩ := S.frz i
  exact ⟨e, L, T, G', _, S', PostS.up p (LE.refl _) hg⟩
theorem ds_if (hc : PT X a (tT c W t)) (h1 : PSs X sts (tS c W f)) (h2 : PSs X sts' (tS c W g)) : PS X (.If a sts sts' pos) (tS c W (sIf t f g)) := by
  refine (ps_if hc h1 h2).imp fun D σ H q => ?_
  obtain ⟨e, L, T, G, ρ, S, p⟩ := q
  refine ⟨e, L, T, G, ρ, S, ?_⟩
  unfold sIf at p
  cases hr : t ρ T with
  | bad => rw [bnd_bad hr] at p; exact p
  | exn k T' => rw [bnd_exn hr] at p; exact fun L' G' H' h1 h2 S' => p L' G' H' σ ρ h1 h2 S'
  | ok b T' =>
    rw [bnd_ok hr] at p
    intro v L' G' H' h1 h2 S' e1
    subst e1
    cases v with
    | true => exact ⟨e, L', T', G', ρ, S', PostS.up p h1 h2⟩
    | false => exact ⟨e, L', T', G', ρ, S', PostS.up p h1 h2⟩
/-- an expression ahead of what its value is for -/
theorem ex_end {F : D → En → M Fl} {D : Ends} {σ : L2.St} {H : Hp} (q : tS c W (fun ρ => fa ρ >>= fun d => F d ρ) D σ H) : tD c W fa σ H fun v H1 => ∃ e L T G ρ d, Sta c e L T G H1 σ ρ ∧ Rep c L G v d ∧ PostS c e W L G (F d ρ T) D := by
  obtain ⟨e, L, T, G, ρ, S, p⟩ := q
  refine ⟨e, L, T, G, ρ, S, ?_⟩
  dsimp only at p
  cases hr : fa ρ T with
  | bad => rw [bnd_bad hr] at p; exact p
  | exn k T' => rw [bnd_exn hr] at p; exact fun L' G' H' h1 h2 S' => p L' G' H' σ ρ h1 h2 S'
  | ok d T' =>
    rw [bnd_ok hr] at p
    exact fun v L' G' H' h1 h2 S' r => ⟨e, L', T', G', ρ, d, S', r, PostS.up p h1 h2⟩
theorem ds_ret (ha : PE X a (tD c W fa)) : PS X (.Return (some a) pos) (tS c W (sRet fa)) := (ps_ret ha).imp fun D σ H q => (ex_end (F := fun d _ => M.ret (.rt d)) q).mono fun v H1 q1 => by
  obtain ⟨e, L, T, G, ρ, d, S, r, p⟩ := q1
  exact p v L G H1 σ ρ (LE.refl _) (Same.refl _) S r
theorem ds_retN : PS X (.Return none pos) (tS c W sRetN) := ps_retN.imp fun D σ H ⟨e, L, T, G, ρ, S, p⟩ => p .non L G H σ ρ (LE.refl _) (Same.refl _) S .non
theorem ds_expr (ha : PE X a (tD c W fa)) (hs : swapsWith a none pos.line X.env = pure false := by rfl) : PS X (.Expr a pos) (tS c W (sExpr fa)) := (ps_expr ha hs).imp fun D σ H q => (ex_end (F := fun _ ρ => M.ret (.nx ρ)) q).mono fun v H1 q1 => by
  obtain ⟨e, L, T, G, ρ, d, S, r, p⟩ := q1
  exact p L G H1 σ (LE.refl _) (Same.refl _) S
theorem ds_set (i : Nat) (h : Ctx X c W k) (ha : PE X a (tD c W fa)) (hi : X.N[i]? = some x := by rfl) (hx : Loc X.env.scope x := by first | exact Or.inl rfl | exact Or.inr rfl) (hs : swapsWith a (some (.Name x pos')) pos.line X.env = pure false := by rfl) (hf : X.fn x = true ∨ X.env.scope.names.lookup x = some .local := by first | exact .inl rfl | exact .inr rfl) :
    PS X (.Assign [.Name x pos'] a pos) (tS c W (sSet i fa)) := (ps_set h.nd hi hx ha hs hf).imp fun D σ H q => (ex_end (F := fun d ρ => M.ret (.nx (putE ρ i d))) q).mono fun v H1 q1 => by
  obtain ⟨e, L, T, G, ρ, d, S, r, p⟩ := q1
  exact p L G H1 _ (LE.refl _) (Same.refl _) (S.put r)
theorem ds_setO (i : Nat) {fo : Ox} (h : Ctx X c W k) (ha : PE X a (tO c W fo)) (hi : X.N[i]? = some x := by rfl) (hx : Loc X.env.scope x := by first | exact Or.inl rfl | exact Or.inr rfl) (hs : swapsWith a (some (.Name x pos')) pos.line X.env = pure false := by rfl) (hf : X.fn x = true ∨ X.env.scope.names.lookup x = some .local := by first | exact .inl rfl | exact .inr rfl) :
    PS X (.Assign [.Name x pos'] a pos) (tS c W (sSetO i fo)) := (ps_set h.nd hi hx ha hs hf).imp fun D σ H q => by
  obtain ⟨e, L, T, G, ρ, S, p⟩ := q
  refine ⟨e, L, T, G, ρ, S, ?_⟩
  unfold sSetO at p
  cases hr : fo ρ T with
  | bad => rw [bnd_bad hr] at p; exact p
  | exn k T' => rw [bnd_exn hr] at p; exact fun L' G' H' h1 h2 S' => p L' G' H' σ ρ h1 h2 S'
  | ok ds T' =>
    rw [bnd_ok hr] at p
    exact fun q L' G' H' h1 h2 S' fr => p L' G' H' _ h1 h2 (S'.putO fr)
theorem ds_pass : PS X (.Pass pos) (tS c W sNil) := ps_pass.imp fun D σ H ⟨e, L, T, G, ρ, S, p⟩ => p L G H σ (LE.refl _) (Same.refl _) S
theorem ds_brk : PS X (.Break pos) (tS c W sBrk) := ps_break.imp fun D σ H ⟨e, L, T, G, ρ, S, p⟩ => p L G H σ (LE.refl _) (Same.refl _) S
theorem ds_cnt : PS X (.Continue pos) (tS c W sCnt) := ps_continue.imp fun D σ H ⟨e, L, T, G, ρ, S, p⟩ => p L G H σ (LE.refl _) (Same.refl _) S
/-- a target's reading -/
def gD (c : Cfg) (is : List Nat) (f : D → En → Option En) : TG := fun v σ H Q => ∃ e L T G ρ d, Sta c e L T G H σ ρ ∧ Rep c L G v d ∧ match f d ρ with
  | some ρ' => ∀ σ', Sta c e L T G H σ' ρ' → (∀ j, j ∉ is → σ'[j]? = σ[j]?) → Q σ' H
  | none => False
def bName (i : Nat) : D → En → Option En := fun d ρ => some (putE ρ i d)
def bTup (is : List Nat) : D → En → Option En := fun d ρ => match d with
  | .tup ds => if ds.length = is.length then some (setsE is ds ρ) else none
  | _ => none
theorem dg_name (i : Nat) (h : Ctx X c W k) (hi : X.N[i]? = some x := by rfl) (hx : Loc X.env.scope x := by first | exact Or.inl rfl | exact Or.inr rfl) (hf : X.fn x = true ∨ X.env.scope.names.lookup x = some .local := by first | exact .inl rfl | exact .inr rfl) : PG X (.Name x pos) (gD c [i] (bName i)) := by
  refine ⟨fun pins s σ H v u Q I r q => (pg_name h.nd hi hx hf).run pins s σ H v u Q I r ?_⟩
  obtain ⟨e, L, T, G, ρ, d, S, rv, p⟩ := q
  exact p _ (S.put rv) fun j hj => List.getElem?_set_ne (fun z => hj (by simp [z]))
/-- names, one after another -/
structure PNs (X : Cx) (es : List Expr) (is : List Nat) : Prop where
  pg : PGs X es (fun vs σ H Q => vs.length = is.length ∧ Q ((is.zip vs).foldl (fun s q => s.set q.1 (some q.2)) σ) H)
theorem pn_nil : PNs X [] [] := ⟨⟨fun pins s σ H vs us Q I r q => pgs_nil.run pins s σ H vs us Q I r ⟨List.eq_nil_of_length_eq_zero q.1, q.2⟩⟩⟩
theorem pn_cons (i : Nat) {es : List Expr} {is : List Nat} (h : Ctx X c W k) (hr : PNs X es is) (hi : X.N[i]? = some x := by rfl) (hx : Loc X.env.scope x := by first | exact Or.inl rfl | exact Or.inr rfl) (hf : X.fn x = true ∨ X.env.scope.names.lookup x = some .local := by first | exact .inl rfl | exact .inr rfl)
    (hs : (assignEach (.Name x pos :: es) X.env).map (·.2) = assign (.Name x pos) X.env :: (assignEach es X.env).map (·.2) := by rfl) : PNs X (.Name x pos :: es) (i :: is) := by
  refine ⟨⟨fun pins s σ H vs us Q I r q => ?_⟩⟩
  obtain ⟨q1, q2⟩ := q
  cases vs with
  | nil => cases q1
  | cons v vs =>
    exact (pgs_cons (pg_name h.nd hi hx hf) hr.pg hs).run pins s σ H _ us Q I r ⟨v, vs, rfl, by simpa using q1, q2⟩
theorem sets_ok {e : Gh} {L : List (List Addr)} {T : List Cell} {G H : Hp} : ∀ {is : List Nat} {vs : List V} {ds : List D} {σ : L2.St} {ρ : En}, Sta c e L T G H σ ρ → RepL c L G vs ds → Sta c e L T G H ((is.zip vs).foldl (fun s q => s.set q.1 (some q.2)) σ) (setsE is ds ρ)
  | [], _, _, _, _, S, _ => by simpa [setsE] using S
  | i :: is, _, _, _, _, S, .nil => by simpa [setsE] using S
  | i :: is, _, _, _, _, S, .cons r1 r2 => by
    rw [List.zip_cons_cons, List.foldl_cons]
    exact sets_ok (S.put r1) r2
theorem foldl_out {α : Type} : ∀ {is : List Nat} {vs : List α} {σ : List (Option α)} {j : Nat}, j ∉ is → ((is.zip vs).foldl (fun s q => s.set q.1 (some q.2)) σ)[j]? = σ[j]?
  | [], _, _, _, _ => by simp
  | i :: is, [], _, _, _ => by simp
  | i :: is, v :: vs, σ, j, h => by
    rw [List.zip_cons_cons, List.foldl_cons, foldl_out (fun z => h (List.mem_cons_of_mem _ z)), List.getElem?_set_ne (show i ≠ j from fun z => h (z ▸ List.mem_cons_self))]
theorem dg_tup {es : List Expr} {is : List Nat} {kk : Nat} (h : Ctx X c W k) (hn : PNs X es is) (hl : (assignEach es X.env).length = is.length := by rfl) (hst : (assignEach es X.env).findIdx? (·.1) = none := by rfl) : PG X (.Tuple es kk pos) (gD c is (bTup is)) := by
  refine ⟨fun pins s σ H v u Q I r q => (pg_tup h.calm hn.pg hl hst).run pins s σ H v u Q I r ?_⟩
  obtain ⟨e, L, T, G, ρ, d, S, rv, p⟩ := q
  cases d with
  | tup ds =>
    cases rv with
    | @tup a vs _ h1 h2 h3 =>
      simp only [bTup] at p
      by_cases z : ds.length = is.length
      · rw [if_pos z] at p
        have e1 : vs.length = is.length := by rw [h2.length]; exact z
        exact ⟨a, vs, rfl, by rw [h.hK]; exact S.subS.sqT h1, e1, e1, p _ (sets_ok S h2) fun j hj => foldl_out hj⟩
      · rw [if_neg z] at p; exact p.elim
  | _ => exact False.elim p
/-- a, b, .. = e -/
theorem ds_unp {es : List Expr} {is : List Nat} {kk : Nat} {tp : Pos} (h : Ctx X c W k) (hn : PNs X es is) (ha : PE X a (tD c W fa)) (hl : (assignEach es X.env).length = is.length := by rfl) (hst : (assignEach es X.env).findIdx? (·.1) = none := by rfl)
    (hs : swapsWithSole [.Tuple es kk tp] a pos.line X.env = pure false := by rfl) (hw : swappedStores [.Tuple es kk tp] a X.env = pure none := by rfl) (h1 : (assignEach [.Tuple es kk tp] X.env).map (·.2) = [assign (.Tuple es kk tp) X.env] := by rfl) :
    PS X (.Assign [.Tuple es kk tp] a pos) (tS c W (sUnp is fa)) := by
  refine (ps_asg ha (dg_tup h hn hl hst) hs hw h1).imp fun D σ H q => (ex_end (F := fun d ρ => match d with
    | .tup ds => if ds.length = is.length then M.ret (.nx (setsE is ds ρ)) else M.fail
    | _ => M.fail) q).mono fun v H1 q1 => ?_
  obtain ⟨e, L, T, G, ρ, d, S, r, p⟩ := q1
  refine ⟨e, L, T, G, ρ, d, S, r, ?_⟩
  cases d with
  | tup ds =>
    simp only [bTup]
    dsimp only at p
    by_cases z : ds.length = is.length
    · rw [if_pos z] at p ⊢
      exact fun σ' S' _ => p L G H1 σ' (LE.refl _) (Same.refl _) S'
    · rw [if_neg z] at p; exact False.elim p
  | _ => exact False.elim p
/-- xs.append(e), xs a list of the def's own -/
theorem ds_app (i : Nat) {apos cpos : Pos} (h : Ctx X c W k) (ha : PE X a (tD c W fa)) (hi : X.N[i]? = some x := by rfl) (hv : Vis X.env.scope x := by first | exact Or.inl rfl | exact Or.inr (Or.inl rfl) | exact Or.inr (Or.inr rfl)) (hd : (x == ("__debug__" : Str)) = false := by decide) (hcd : (x == ("__classdict__" : Str)) = false := by decide)
    (hs : swapsWith (.Call (.Attribute (.Name x pos') "append" apos) [a] [] cpos) none pos.line X.env = pure false := by rfl) (ns : NS a := by intro _ _; rfl)
    (hbase : attributeBase (.Name x pos') "append" X.env (eval (.Name x pos') X.env) = eval (.Name x pos') X.env := by rfl)
    (hfew : ((backTo cpos (starEach [a] X.env)).all (fun x => !x.1) && (backToKw cpos (keywordEach [] X.env)).all (fun x => x.1.isSome)
      && decide (([a] : List Expr).length + ([] : List Keyword).length + (if ([] : List Keyword).isEmpty then 0 else 1) < 30)) = true := by rfl) (hline : (apos.endLine == cpos.line) = true := by rfl) :
    PS X (.Expr (.Call (.Attribute (.Name x pos') "append" apos) [a] [] cpos) pos) (tS c W (sApp i fa)) := by
  refine (ps_expr (pe_bm PySem.F.plainAttrs_list PySem.F.slot_list_append PySem.F.type_list_append mt_append (pe_var hi hv hd hcd) (pa_cons ha pa_nil (ns _ _)) hbase hfew hline (ns _ _)) hs).imp fun D σ H q => ?_
  obtain ⟨e, L, T, G, ρ, S, p⟩ := q
  -- the list stands where it stood
  have own : ∀ {ds : List WW.D}, ρ[i]? = some (some (.ol ds)) → ∀ {L' : List (List Addr)} {T' : List Cell} {G' H' : Hp}, Sta c e L' T' G' H' σ ρ → ∃ q vs, σ[i]? = some (some (.ref q)) ∧ H' q = some (.lst vs) ∧ RepL c L' G' vs ds ∧ ds.length ≤ sizeLine ∧ G' q = none ∧ q ∉ L'.flatten ∧ e.H0 q = none := fun {ds} hρ {L' T' G' H'} S' => by
    obtain ⟨v, h1, q, vs, rfl, h2⟩ := S'.slot i _ hρ
    exact ⟨q, vs, h1, h2⟩
  rcases hρ : ρ[i]? with _ | _ | sv
  case some.some =>
    cases sv with
    | ol ds =>
      obtain ⟨q0, vs0, hσ, hq0, _⟩ := own hρ S
      refine ⟨.ref q0, hσ, .inl ⟨rfl, _, SqL.of hq0⟩, e, L, T, G, ρ, S, ?_⟩
      simp only [sApp, hρ] at p
      cases hr : fa ρ T with
      | bad => rw [bnd_bad hr] at p; exact p
      | exn k T' => rw [bnd_exn hr] at p; exact fun L' G' H' h1 h2 S' => p L' G' H' σ ρ h1 h2 S'
      | ok d T' =>
        rw [bnd_ok hr] at p
        intro v L' G' H' h1 h2 S' rv
        obtain ⟨q1, vs, hσ', hq, rvs, hz, hg, hl, h0⟩ := own hρ S'
        rw [hσ] at hσ'
        cases hσ'
        by_cases z : ds.length < sizeLine
        · rw [if_pos z] at p
          refine ⟨q0, vs, v, rfl, rfl, hq, by rw [rvs.length]; exact z, ?_⟩
          refine p L' G' _ σ h1 h2 ?_
          have nl0 := S'.nl0 h0
          have ne : ∀ {a : Addr} {o : HO}, a ≠ q0 → H' a = some o → upd H' q0 (.lst (vs ++ [v])) a = some o := fun n e => by rw [upd_ne n]; exact e
          refine ⟨fun a o ha => ?_, fun a o ha hl => ?_, S'.store.keeps fun a ha o q => ne (fun z => hl (z ▸ ha)) q, S'.ldist, S'.lfree, S'.lmem0, S'.l0free, S'.gnew, fun a ha => ?_, S'.l0h, by rw [List.length_set, S'.len], fun j sv h => ?_, fun q hq => ?_, fun j k x y hjk hj hk ox oy => ?_⟩
          · have n : a ≠ q0 := fun z => by rw [z, hg] at ha; cases ha
            rcases S'.sub a o ha with z | ⟨z1, ob, z⟩
            · exact .inl (ne n z)
            · exact .inr ⟨z1, ob, ne n z⟩
          · have n : a ≠ q0 := fun z => by rw [z, h0] at ha; cases ha
            obtain ⟨z1, z2⟩ := S'.same a o ha hl
            refine ⟨fun m => ne n (z1 m), fun m => ?_⟩
            obtain ⟨ob, z⟩ := z2 m
            exact ⟨ob, ne n z⟩
          · rw [upd_ne (show a ≠ q0 from fun z => nl0 (z ▸ ha))]
            exact S'.l0there a ha
          · rcases get_set h with ⟨rfl, e1⟩ | ⟨hj, h⟩
            · cases e1
              exact ⟨.ref q0, hσ, q0, _, rfl, upd_same, rvs.snoc rv, by rw [List.length_append]; exact z, hg, hl, h0⟩
            · obtain ⟨w, w1, w2⟩ := S'.slot j sv h
              refine ⟨w, w1, ?_⟩
              cases sv with
              | d x => exact w2
              | ol es =>
                obtain ⟨q, us, rfl, y1, y2⟩ := w2
                have n : q ≠ q0 := fun z => S'.disj j i _ _ hj h hρ trivial trivial (by rw [w1, hσ, z])
                exact ⟨q, us, rfl, ne n y1, y2⟩
              | od ks us =>
                obtain ⟨q, o, rfl, y1, y2⟩ := w2
                have n : q ≠ q0 := fun z => S'.disj j i _ _ hj h hρ trivial trivial (by rw [w1, hσ, z])
                exact ⟨q, o, rfl, ne n y1, y2⟩
          · obtain ⟨w1, w2, w3, w4, w5, w6⟩ := S'.xown q hq
            have n : q.1 ≠ q0 := fun z => w6 i _ hρ trivial (by rw [hσ, z])
            refine ⟨ne n w1, w2, w3, w4, w5, fun j sv h ow => ?_⟩
            rcases get_set h with ⟨rfl, e1⟩ | ⟨hj, h⟩
            · rw [hσ]; exact fun z => n (by cases z; rfl)
            · exact w6 j sv h ow
          · rcases get_set hj with ⟨rfl, e1⟩ | ⟨n1, y1⟩
            · rcases get_set hk with ⟨rfl, e2⟩ | ⟨n2, y2⟩
              · exact absurd rfl hjk
              · exact S'.disj _ k _ y (Ne.symm n2) hρ y2 trivial oy
            · rcases get_set hk with ⟨rfl, e2⟩ | ⟨n2, y2⟩
              · exact S'.disj j _ x _ n1 y1 hρ ox trivial
              · exact S'.disj j k x y hjk y1 y2 ox oy
        · rw [if_neg z] at p; exact False.elim p
    | _ => simp only [sApp, hρ] at p; exact False.elim p
  all_goals (simp only [sApp, hρ] at p; exact False.elim p)
end
end WW
set_option maxHeartbeats 1000000
namespace WW
open PySem PySem.Spec PyProof.Rows L2
theorem meets_enum1 {v : Value} {o : Obj} {P : Heap → Prop} (B : Begins v o P) :
    Meets (Builtin.«enumerate.__new__» ⟨[.type "enumerate", v], []⟩) (fun _ R s => P s.heap ∧
      R (.ok (.ret (.ref (s.heap.push o).objs.size))) { s with heap := (s.heap.push o).push { cls := .type "enumerate", data := .fields #[.none, .bool false, .ref s.heap.objs.size, rawInt 0, .none, .none] } }) :=
  .of_wp fun prog w A R s h => by
    obtain ⟨hp, gg, dd, tt, oo⟩ := s
    obtain ⟨p1, h⟩ := h
    have hsub := PySem.sub_enumerate
    have nxt : ∀ {A' : Around} {E : Value → Shared → Prop} {Q : Value → Shared → Prop}, Q (.ref hp.objs.size) ⟨hp.push o, gg, dd, tt, oo⟩ → wpAny (model prog w) A' (pyIter v) Q E ⟨hp, gg, dd, tt, oo⟩ :=
      fun q => B.iter prog w _ _ ⟨hp, gg, dd, tt, oo⟩ _ p1 q
    wp_walk using nxt
    refine wpAny_stack_any fun st => wpAny_pure ?_
    split
    · rename_i c _ _ _ _ _
      cases (c == Value.type "enumerate")
      · wp_walk using nxt
        exact ⟨_, rfl, h⟩
      · wp_walk using nxt
        exact ⟨_, rfl, h⟩
    · wp_walk using nxt
      exact ⟨_, rfl, h⟩
theorem call_enum1 {prog : Program} {w : World} {A : Around} {E : Value → Shared → Prop} {s : Shared} {v : Value} {o : Obj} {P : Heap → Prop} {Q : Value → Shared → Prop} (B : Begins v o P) (p1 : P s.heap)
    (h : ∀ h', IsEnum h' (s.heap.objs.size + 1) s.heap.objs.size 0 .none → h'.get? s.heap.objs.size = some o → (∀ b u, s.heap.get? b = some u → h'.get? b = some u) → Q (.ref (s.heap.objs.size + 1)) { s with heap := h' }) :
    wpAny (model prog w) A (call (.type "enumerate") [v]) Q E s := by
  refine callType_new F.called_enumerate (by decide) (F.typeCall_enumerate_1 _) (F.newCall_enumerate_1 _) (fun ob => F.args_object_init_2 ob _) F.entry_enumerate_new (meets_enum1 B) ⟨p1, ?_⟩
  have sz : (s.heap.push o).objs.size = s.heap.objs.size + 1 := Heap.size_push ..
  show _ ∧ _
  rw [sz]
  have en : IsEnum ((s.heap.push o).push { cls := .type "enumerate", data := .fields #[.none, .bool false, .ref s.heap.objs.size, rawInt 0, .none, .none] }) (s.heap.objs.size + 1) s.heap.objs.size 0 .none := by
    have q := Heap.get?_push_size (s.heap.push o) (o := { cls := .type "enumerate", data := .fields #[.none, .bool false, .ref s.heap.objs.size, rawInt 0, .none, .none] }) rfl
    rw [sz] at q
    exact q
  exact ⟨⟨_, en, rfl⟩, h _ en (Heap.get?_push_of_some _ (Heap.get?_push_size _ B.free)) fun b u y => Heap.get?_push_of_some _ (Heap.get?_push_of_some _ y)⟩
/-- the tuple at a, each item in a new pair -/
def Itf (K : PySem.W.Frag) (a : Addr) : It :=
  ⟨fun i H => ∃ (xs : List V) (x : V), SqT K H a xs ∧ xs[i]? = some x, fun i H v H' => ∃ T x, v = .ref T ∧ H T = none ∧ H' = upd H T (.tup [.int (i : Nat), x]) ∧ ∀ xs, SqT K H a xs → xs[i]? = some x, fun i H => ∃ xs : List V, SqT K H a xs ∧ xs.length = i⟩
theorem turn_enumT {P : Program} {w : World} {K : PySem.W.Frag} {els : List Expr} {kx : Nat} {tp : Pos} (a en it : Addr) (hai : a ≠ it) (hae : a ≠ en) :
    Turn P w K (.Tuple els kx tp) (Itf K a) [en, it] en (fun i h => (∃ old, IsEnum h en it ((i : Nat) : Int) old) ∧ h.IsTupleIter it a i ∧ en ≠ it) where
  mem := by simp
  obj := fun i h st b hb => by
    obtain ⟨⟨old, he⟩, ⟨o, ho, oc, od⟩, _⟩ := st
    have z' : b = en ∨ b = it := by simpa using hb
    rcases z' with z | z
    · rw [z]; exact ⟨_, he, fun v q => nomatch q⟩
    · rw [z]; exact ⟨o, ho, fun v q => by rw [od] at q; cases q⟩
  keep := fun i h h' st kp => let ⟨⟨old, he⟩, hi, ne⟩ := st; ⟨⟨old, kp en (by simp) _ he⟩, hi.at fun o q => kp it (by simp) o q, ne⟩
  item := by
    intro X hP hw hK hc i pins s σ H E I hf st hg
    subst hP hw hK
    obtain ⟨⟨old, he⟩, hit, ne⟩ := st
    obtain ⟨xs, x, sq, hx⟩ := hg
    obtain ⟨its, rv, p, hz⟩ := I.tuple sq
    obtain ⟨u, hu, ru⟩ := rv.get hx
    have l1 : en < s.heap.objs.size := Heap.lt_size he
    have l2 : it < s.heap.objs.size := by obtain ⟨_, q, _⟩ := hit; exact Heap.lt_size q
    have hil : i < its.toArray.size := by
      have := (List.getElem?_eq_some_iff.mp hu).1
      simpa using this
    refine wpAny_pyNext_enum_itemD (Draws.tuple (show X.A.in1.handled = none from I.ok.hd hc) it a hai its.toArray) he ⟨hit, show s.heap.IsTuple a its.toArray from p⟩ hil ne (by simp [ne, hae.symm]) fun y h' tk hy ho hst hT _ kk => ?_
    have yu : y = u := by
      have z1 : its.toArray[i]? = some u := by simpa using hu
      rw [z1] at hy
      exact (Option.some.inj hy).symm
    subst yu
    refine ⟨_, rfl, wpAny_letOwnedTupleGo_enum (s := { s with heap := h', toks := tk + 1 }) ho fun h'' he' sb => ?_⟩
    have T2 : h''.get? s.heap.objs.size = some { cls := .type "tuple", data := .seq #[.int i tk, y] } := (sb.2 _ (Nat.ne_of_gt l1)).trans hT
    have nw : ObjOk X.prog X.w (upd H s.heap.objs.size (.tup [.int (i : Nat), x])) h'' s.heap.objs.size (.tup [.int (i : Nat), x]) :=
      ⟨by show 2 ≤ sizeLine; decide, [.int i tk, y], .cons ⟨_, rfl⟩ (.cons ru .nil), ⟨_, T2, rfl, _, rfl⟩⟩
    have I1 : Inv X pins σ (upd H s.heap.objs.size (.tup [.int (i : Nat), x])) { s with heap := h'', toks := tk + 1 } :=
      I.turnedNew (ch := [en, it]) (fun b ob hb q => (sb.2 b (fun z => hb (by simp [z]))).trans (kk b ob (fun z => hb (by simp [z])) (fun z => hb (by simp [z])) q)) hf (Nat.le_refl _) nw
    refine ⟨.ref s.heap.objs.size, _, I1, rfl, ⟨_, x, rfl, I.hok.fresh (Nat.le_refl _), rfl, fun ys hy => by rw [I.tuple_inj hy sq]; exact hx⟩, ⟨⟨y, ?_⟩, hst.1.at fun o q => (sb.2 it (Ne.symm ne)).trans q, ne⟩, fun b hb => ?_⟩
    · have e1 : ((i + 1 : Nat) : Int) = (i : Int) + 1 := by omega
      rw [e1]
      exact he'
    · have lt : b < s.heap.objs.size := by
        have z' : b = en ∨ b = it := by simpa using hb
        rcases z' with z | z
        · rw [z]; exact l1
        · rw [z]; exact l2
      rw [upd_ne (Nat.ne_of_lt lt)]
      exact (hf b hb).1
  done := by
    intro X hP hw hK hc i pins s σ H E I hf st hg
    subst hP hw hK
    obtain ⟨⟨old, he⟩, hit, ne⟩ := st
    obtain ⟨xs, sq, hx⟩ := hg
    obtain ⟨its, rv, p, hz⟩ := I.tuple sq
    obtain ⟨f0, f1, f2, f3, f4, f5⟩ := hf it (by simp)
    have hl := rv.length
    obtain ⟨o, ho, oc, od⟩ := id hit
    have sz : its.toArray.size = i := by simp; omega
    refine wpAny_pyNext_enum_endD (Draws.tuple (show X.A.in1.handled = none from I.ok.hd hc) it a hai its.toArray) he (by rw [sz]; exact ⟨hit, show s.heap.IsTuple a its.toArray from p⟩) fun h' eb => ⟨rfl, I.turned (t' := s.toks) (fun b o hb q => eb b o hb q) f0 f1 f3 f4 f5⟩
  self := fun A i s Q E st h => let ⟨⟨_, he⟩, _⟩ := st; wpAny_pyIter_enum he h
end WW
set_option maxHeartbeats 1000000
namespace WW
open PySem PySem.Spec PyProof.Rows L2
abbrev Sr := En → M (List D)
/-- the iterator walks these data, whatever happens meanwhile -/
def Wk (c : Cfg) (L : List (List Addr)) (G : Hp) (J : It) (xs : List D) : Prop := ∀ (e : Gh) (L' : List (List Addr)) (T' : List Cell) (G' H' : Hp) (σ : L2.St) (ρ : En), LE L L' → Same G G' → Sta c e L' T' G' H' σ ρ → ∀ i, i ≤ xs.length →
  (∀ x, xs[i]? = some x → J.go i H' ∧ ∀ v H'', J.yld i H' v H'' → ∃ G'', Same G' G'' ∧ Sta c e L' T' G'' H'' σ ρ ∧ Rep c L' G'' v x) ∧ (xs[i]? = none → J.stop i H')
def tI (c : Cfg) (W : WX) (f : Sr) : TI := fun σ H R => ∃ e L T G ρ, Sta c e L T G H σ ρ ∧ match f ρ T with
  | .ok xs T' => ∀ J L' G' H', LE L L' → Same G G' → Sta c e L' T' G' H' σ ρ → Wk c L' G' J xs → xs.length ≤ sizeLine → R J H'
  | .exn k T' => ∀ L' G' H', LE L L' → Same G G' → Sta c e L' T' G' H' σ ρ → W (.ref (c.CA k)) none σ H'
  | .bad => False
theorem Wk.up {c : Cfg} {L L1 : List (List Addr)} {G G1 : Hp} {J : It} {xs : List D} (h : Wk c L G J xs) (hL : LE L L1) (hG : Same G G1) : Wk c L1 G1 J xs := fun e L' T' G' H' σ ρ h1 h2 S => h e L' T' G' H' σ ρ (hL.trans h1) (hG.trans h2) S
theorem _root_.L2.PI.imp {X : Cx} {tg it : Expr} {t t' : TI} (h : PI X tg it t) (i : ∀ σ H R, t' σ H R → t σ H R) : PI X tg it t' := ⟨fun pn st σ H R I q => h.run pn st σ H R I (i σ H R q)⟩
def seqM : D → M (List D)
  | .lst xs => M.ret xs
  | .tup xs => M.ret xs
  | _ => M.fail
def iSeq (f : Ex) : Sr := fun ρ => f ρ >>= seqM
def rngL (lo : Int) (n : Nat) : List D := (List.range n).map fun (k : Nat) => .int (lo + (k : Int))
def rngC (lo s : Int) (n : Nat) : List D := (List.range n).map fun (k : Nat) => .int (lo + (k : Int) * s)
def inB (i : Int) : Bool := decide (-(2 ^ 62) ≤ i ∧ i < 2 ^ 62)
def rng1M : List D → M (List D)
  | [.int j] => if inB j && decide (j.toNat ≤ sizeLine) then M.ret (rngL 0 j.toNat) else M.fail
  | _ => M.fail
def rng2M : List D → M (List D)
  | [.int i, .int j] => if inB i && inB j && decide ((j - i).toNat ≤ sizeLine) then M.ret (rngL i (j - i).toNat) else M.fail
  | _ => M.fail
def rng3M : List D → M (List D)
  | [.int i, .int j, .int s] => if decide (s = -1) && inB i && inB j && decide ((i - j).toNat ≤ sizeLine) then M.ret (rngC i (-1) (i - j).toNat) else M.fail
  | _ => M.fail
def enumL (xs : List D) : List D := xs.mapIdx fun i x => .tup [.int (i : Nat), x]
def enumM : List D → M (List D)
  | [.lst xs] => M.ret (enumL xs)
  | [.tup xs] => M.ret (enumL xs)
  | _ => M.fail
def iCall (F : List D → M (List D)) (as : List Ex) : Sr := fun ρ => dArgs as ρ >>= F
def bigOne : (1 : Nat) ≤ sizeLine := by decide
section
variable {c : Cfg} {L : List (List Addr)} {G H : Hp}
theorem wk_list {a : Addr} {vs : List V} {ds : List D} (h : G a = some (.lst vs)) (r : RepL c L G vs ds) : Wk c L G (Itl c.K a) ds := by
  intro e L' T' G' H' σ ρ h1 h2 S i hi
  have q : SqL c.K H' a vs := .of (S.subS.lst (h2 _ _ h))
  refine ⟨fun x hx => ?_, fun hx => ⟨vs, q, by rw [r.length]; exact List.getElem?_eq_none_iff.mp hx⟩⟩
  obtain ⟨v, hv, rv⟩ := r.get hx
  refine ⟨⟨vs, v, q, hv⟩, fun u H'' y => ?_⟩
  obtain ⟨rfl, y⟩ := y
  have z := y vs q
  rw [hv] at z
  cases z
  exact ⟨G', Same.refl _, S, rv.up h1 h2⟩
theorem wk_tup {a : Addr} {vs : List V} {ds : List D} (h : SqT c.K G a vs) (r : RepL c L G vs ds) : Wk c L G (Itt c.K a) ds := by
  intro e L' T' G' H' σ ρ h1 h2 S i hi
  have q : SqT c.K H' a vs := S.subS.sqT (sqT_mono h2 h)
  refine ⟨fun x hx => ?_, fun hx => ⟨vs, q, by rw [r.length]; exact List.getElem?_eq_none_iff.mp hx⟩⟩
  obtain ⟨v, hv, rv⟩ := r.get hx
  refine ⟨⟨vs, v, q, hv⟩, fun u H'' y => ?_⟩
  obtain ⟨rfl, y⟩ := y
  have z := y vs q
  rw [hv] at z
  cases z
  exact ⟨G', Same.refl _, S, rv.up h1 h2⟩
theorem wk_rng {lo : Int} {n : Nat} : Wk c L G (Itr lo n) (rngL lo n) := by
  intro e L' T' G' H' σ ρ h1 h2 S i hi
  unfold rngL
  refine ⟨fun x hx => ?_, fun hx => ?_⟩
  · rw [List.getElem?_map] at hx
    cases q : (List.range n)[i]? with
    | none => rw [q] at hx; cases hx
    | some k =>
      rw [q] at hx
      cases hx
      obtain ⟨lt, e1⟩ := List.getElem?_eq_some_iff.mp q
      rw [List.getElem_range] at e1
      subst e1
      refine ⟨show i < n by simpa using lt, fun u H'' y => ?_⟩
      obtain ⟨rfl, rfl⟩ := y
      exact ⟨G', Same.refl _, S, .int _⟩
  · show n ≤ i
    simpa using hx
theorem wk_rngC {lo s : Int} {n : Nat} : Wk c L G (Itc lo s n) (rngC lo s n) := by
  intro e L' T' G' H' σ ρ h1 h2 S i hi
  unfold rngC
  refine ⟨fun x hx => ?_, fun hx => ?_⟩
  · rw [List.getElem?_map] at hx
    cases q : (List.range n)[i]? with
    | none => rw [q] at hx; cases hx
    | some k =>
      rw [q] at hx
      cases hx
      obtain ⟨lt, e1⟩ := List.getElem?_eq_some_iff.mp q
      rw [List.getElem_range] at e1
      subst e1
      refine ⟨show i < n by simpa using lt, fun u H'' y => ?_⟩
      obtain ⟨rfl, rfl⟩ := y
      exact ⟨G', Same.refl _, S, .int _⟩
  · show n ≤ i
    simpa using hx
theorem enum_get {xs : List D} {i : Nat} {y : D} (h : (enumL xs)[i]? = some y) : ∃ x, xs[i]? = some x ∧ y = .tup [.int (i : Nat), x] := by
  unfold enumL at h
  rw [List.getElem?_mapIdx] at h
  cases q : xs[i]? with
  | none => rw [q] at h; cases h
  | some x => rw [q] at h; cases h; exact ⟨x, rfl, rfl⟩
theorem pair_new {e : Gh} {T : List Cell} {σ : L2.St} {ρ : En} (S : Sta c e L T G H σ ρ) {p : Addr} (hp : H p = none) {v : V} {x : D} {i : Nat} (r : Rep c L G v x) :
    ∃ G'', Same G G'' ∧ Sta c e L T G'' (upd H p (.tup [.int (i : Nat), v])) σ ρ ∧ Rep c L G'' (.ref p) (.tup [.int (i : Nat), x]) :=
  ⟨_, same_upd (S.gnone hp), S.new hp _, .tup (.of upd_same) (.cons (.int _) (.cons (r.up (LE.refl _) (same_upd (S.gnone hp))) .nil)) (show 2 ≤ sizeLine by decide)⟩
theorem wk_enumL {a : Addr} {vs : List V} {ds : List D} (h : G a = some (.lst vs)) (r : RepL c L G vs ds) : Wk c L G (Ite c.K a) (enumL ds) := by
  intro e L' T' G' H' σ ρ h1 h2 S i hi
  have q : SqL c.K H' a vs := .of (S.subS.lst (h2 _ _ h))
  refine ⟨fun x hx => ?_, fun hx => ⟨vs, q, by rw [r.length]; simpa [enumL] using hx⟩⟩
  obtain ⟨x', hx', rfl⟩ := enum_get hx
  obtain ⟨v, hv, rv⟩ := r.get hx'
  refine ⟨⟨vs, v, q, hv⟩, fun u H'' y => ?_⟩
  obtain ⟨p, x0, rfl, hp, rfl, y⟩ := y
  have z := y vs q
  rw [hv] at z
  cases z
  exact pair_new S hp (rv.up h1 h2)
theorem wk_enumT {a : Addr} {vs : List V} {ds : List D} (h : SqT c.K G a vs) (r : RepL c L G vs ds) : Wk c L G (Itf c.K a) (enumL ds) := by
  intro e L' T' G' H' σ ρ h1 h2 S i hi
  have q : SqT c.K H' a vs := S.subS.sqT (sqT_mono h2 h)
  refine ⟨fun x hx => ?_, fun hx => ⟨vs, q, ?_⟩⟩
  · obtain ⟨x', hx', rfl⟩ := enum_get hx
    obtain ⟨v, hv, rv⟩ := r.get hx'
    refine ⟨⟨vs, v, q, hv⟩, fun u H'' y => ?_⟩
    obtain ⟨p, x0, rfl, hp, rfl, y⟩ := y
    have z := y vs q
    rw [hv] at z
    cases z
    exact pair_new S hp (rv.up h1 h2)
  · have e1 := r.length
    have e2 : (enumL ds).length = ds.length := by simp [enumL]
    have e3 := List.getElem?_eq_none_iff.mp hx
    omega
end
section
variable {X : Cx} {c : Cfg} {W : WX} {k : Nat} {tg a : Expr} {es : List Expr} {fa : Ex} {fs : List Ex} {pos p : Pos}
/-- a source told by a value ahead of it -/
theorem src_end {β α : Type} {R0 : List (List Addr) → Hp → β → α → Prop} {f : En → M α} {F : α → M (List D)} {σ : L2.St} {H : Hp} {R : It → Hp → Prop} (q : tI c W (fun ρ => f ρ >>= F) σ H R) :
    tG c W R0 f σ H fun v H1 => ∃ e L T G ρ d, Sta c e L T G H1 σ ρ ∧ R0 L G v d ∧ match F d T with
      | .ok xs T' => ∀ J L' G' H', LE L L' → Same G G' → Sta c e L' T' G' H' σ ρ → Wk c L' G' J xs → xs.length ≤ sizeLine → R J H'
      | .exn k T' => ∀ L' G' H', LE L L' → Same G G' → Sta c e L' T' G' H' σ ρ → W (.ref (c.CA k)) none σ H'
      | .bad => False := by
  obtain ⟨e, L, T, G, ρ, S, p⟩ := q
  refine ⟨e, L, T, G, ρ, S, ?_⟩
  dsimp only at p
  cases hr : f ρ T with
  | bad => rw [bnd_bad hr] at p; exact p
  | exn k T' => rw [bnd_exn hr] at p; exact p
  | ok d T' =>
    rw [bnd_ok hr] at p
    intro v L' G' H' h1 h2 S' r
    refine ⟨e, L', T', G', ρ, d, S', r, ?_⟩
    revert p
    cases F d T' with
    | bad => exact id
    | exn k t => exact fun p L2 G2 H2 h3 h4 => p L2 G2 H2 (h1.trans h3) (h2.trans h4)
    | ok xs t => exact fun p J L2 G2 H2 h3 h4 => p J L2 G2 H2 (h1.trans h3) (h2.trans h4)
/-- a list or a tuple -/
theorem pi_seq {tl : TE} (hl : PE X a tl) : PI X tg a (fun σ H R => tl σ H fun x H1 => ∃ q, x = .ref q ∧ (((∃ xs, SqL X.K H1 q xs) ∧ R (Itl X.K q) H1) ∨ ((∃ xs, SqT X.K H1 q xs) ∧ R (Itt X.K q) H1))) := by
  refine ⟨fun pn st σ H R I hh => ?_⟩
  refine thn (hl.run pn st σ H _ I hh) fun v s1 ⟨x, H1, I1, r1, q, ex, alt⟩ => ?_
  subst ex
  cases r1
  have own : ∀ b ∈ [s1.heap.objs.size], FpOk X pn H1 b := fun b hb => by
    rw [List.mem_singleton.mp hb]
    exact I1.fpOk (Nat.le_refl _) (I1.hok.fresh (Nat.le_refl _))
  rcases alt with ⟨⟨xs, sq⟩, z⟩ | ⟨⟨xs, sq⟩, z⟩
  · obtain ⟨its, rv, il, hz⟩ := I1.list sq
    exact wpAny_pyIter_list il.isList ⟨s1.heap.objs.size, [s1.heap.objs.size], _, _, H1, rfl, I1.kept (t' := s1.toks) fun b o e => Heap.get?_push_of_some _ e, turn_list q _, ⟨_, Heap.get?_push_size _ rfl, rfl, rfl⟩, own, z⟩
  · obtain ⟨its, rv, il, hz⟩ := I1.tuple sq
    exact wpAny_pyIter_tuple (show s1.heap.IsTuple q its.toArray from il) ⟨s1.heap.objs.size, [s1.heap.objs.size], _, _, H1, rfl, I1.kept (t' := s1.toks) fun b o e => Heap.get?_push_of_some _ e, turn_tuple q _, ⟨_, Heap.get?_push_size _ rfl, rfl, rfl⟩, own, z⟩
theorem di_seq (h : Ctx X c W k) (ha : PE X a (tD c W fa)) : PI X tg a (tI c W (iSeq fa)) := by
  refine (pi_seq ha).imp fun σ H R q => (src_end (R0 := Rep c) (F := seqM) q).mono fun v H1 q1 => ?_
  obtain ⟨e, L, T, G, ρ, d, S, r, p⟩ := q1
  rw [h.hK]
  cases r with
  | @lst a vs ds h1 h2 h3 => exact ⟨a, rfl, .inl ⟨⟨vs, .of (S.subS.lst h1)⟩, p _ L G H1 (LE.refl _) (Same.refl _) S (wk_list h1 h2) h3⟩⟩
  | @tup a vs ds h1 h2 h3 => exact ⟨a, rfl, .inr ⟨⟨vs, S.subS.sqT h1⟩, p _ L G H1 (LE.refl _) (Same.refl _) S (wk_tup h1 h2) h3⟩⟩
  | _ => exact False.elim p
theorem inB_iff {i : Int} : inB i = true ↔ (-(2 ^ 62) ≤ i ∧ i < 2 ^ 62) := by unfold inB; exact decide_eq_true_iff
theorem rngL_len (lo : Int) (n : Nat) : (rngL lo n).length = n := by simp [rngL]
theorem di_range1 (h : Ctx X c W k) (ha : PE X a (tD c W fa)) (ns : NS a := by intro _ _; rfl) (hg : Gl X "range" := by rfl) : PI X tg (.Call (.Name "range" p) [a] [] pos) (tI c W (iCall rng1M [fa])) := by
  refine (pi_range1 hg h.bl.range (da_cons ha da_nil (ns _ _)) (ns _ _)).imp fun σ H R q => (src_end (R0 := RepL c) (F := rng1M) q).mono fun v H1 q1 => ?_
  obtain ⟨e, L, T, G, ρ, ds, S, r, p⟩ := q1
  match ds, r, p with
  | [.int j], .cons (.int _) .nil, p =>
    simp only [rng1M] at p
    by_cases z : (inB j && decide (j.toNat ≤ sizeLine)) = true
    · rw [if_pos z] at p
      simp only [Bool.and_eq_true, decide_eq_true_eq] at z
      exact ⟨j, rfl, (inB_iff.mp z.1).1, (inB_iff.mp z.1).2, p _ L G H1 (LE.refl _) (Same.refl _) S wk_rng (by rw [rngL_len]; exact z.2)⟩
    · rw [if_neg z] at p; exact False.elim p
theorem di_range2 {b : Expr} {fb : Ex} (h : Ctx X c W k) (ha : PE X a (tD c W fa)) (hb : PE X b (tD c W fb)) (ns : NS a := by intro _ _; rfl) (ns2 : NS b := by intro _ _; rfl) (hg : Gl X "range" := by rfl) : PI X tg (.Call (.Name "range" p) [a, b] [] pos) (tI c W (iCall rng2M [fa, fb])) := by
  refine (pi_range2 hg h.bl.range (da_cons ha (da_cons hb da_nil (ns2 _ _)) (ns _ _)) (by rw [ns, ns2]; rfl) (ns2 _ _)).imp fun σ H R q => (src_end (R0 := RepL c) (F := rng2M) q).mono fun v H1 q1 => ?_
  obtain ⟨e, L, T, G, ρ, ds, S, r, p⟩ := q1
  match ds, r, p with
  | [.int i, .int j], .cons (.int _) (.cons (.int _) .nil), p =>
    simp only [rng2M] at p
    by_cases z : (inB i && inB j && decide ((j - i).toNat ≤ sizeLine)) = true
    · rw [if_pos z] at p
      simp only [Bool.and_eq_true, decide_eq_true_eq] at z
      have zi := inB_iff.mp z.1.1
      have zj := inB_iff.mp z.1.2
      exact ⟨i, j, rfl, ⟨zi.1, zi.2, zj.1, zj.2⟩, p _ L G H1 (LE.refl _) (Same.refl _) S wk_rng (by rw [rngL_len]; exact z.2)⟩
    · rw [if_neg z] at p; exact False.elim p
theorem di_range3 {b d : Expr} {fb fd : Ex} (h : Ctx X c W k) (ha : PE X a (tD c W fa)) (hb : PE X b (tD c W fb)) (hd : PE X d (tD c W fd)) (ns : NS a := by intro _ _; rfl) (ns2 : NS b := by intro _ _; rfl) (ns3 : NS d := by intro _ _; rfl)
    (hg : Gl X "range" := by rfl) (hpl : (backTo pos (starEach [b, d] X.env)).any (·.1) = false := by rfl) : PI X tg (.Call (.Name "range" p) [a, b, d] [] pos) (tI c W (iCall rng3M [fa, fb, fd])) := by
  refine (pi_range3 hg h.bl.range (da_cons ha (da_cons hb (da_cons hd da_nil (ns3 _ _)) (ns2 _ _)) (ns _ _)) (ns _ _) hpl).imp fun σ H R q => (src_end (R0 := RepL c) (F := rng3M) q).mono fun v H1 q1 => ?_
  obtain ⟨e, L, T, G, ρ, ds, S, r, p⟩ := q1
  match ds, r, p with
  | [.int i, .int j, .int s], .cons (.int _) (.cons (.int _) (.cons (.int _) .nil)), p =>
    simp only [rng3M] at p
    by_cases z : (decide (s = -1) && inB i && inB j && decide ((i - j).toNat ≤ sizeLine)) = true
    · rw [if_pos z] at p
      simp only [Bool.and_eq_true, decide_eq_true_eq] at z
      have zi := inB_iff.mp z.1.1.2
      have zj := inB_iff.mp z.1.2
      have e1 := z.1.1.1
      subst e1
      exact ⟨i, j, -1, (i - j).toNat, rfl, RgC.neg zi.1 zi.2 zj.1 zj.2, p _ L G H1 (LE.refl _) (Same.refl _) S wk_rngC (by unfold rngC; rw [List.length_map, List.length_range]; exact z.2)⟩
    · rw [if_neg z] at p; exact False.elim p
/-- enumerate of a list or a tuple -/
theorem pi_enumS {els : List Expr} {kx : Nat} {tp : Pos} {ta : TA} (hg : Gl X "enumerate") (hm : X.mg "enumerate" = none) (ha : PA X [a] ta) (hs : starEach [a] X.env = [(false, eval a X.env)]) :
    PI X (.Tuple els kx tp) (.Call (.Name "enumerate" p) [a] [] pos) (fun σ H R => ta σ H fun vs H1 => ∃ q, vs = [.ref q] ∧ (((∃ xs, SqL X.K H1 q xs) ∧ R (Ite X.K q) H1) ∨ ((∃ xs, SqT X.K H1 q xs) ∧ R (Itf X.K q) H1))) := by
  refine ⟨fun pn st σ H R I hh => ?_⟩
  refine Call_ (ld_blt I hg hm boot_enumerate (PyProof.Rows.callWith_type1 (thn (ha.run pos pn st σ H _ I hh) fun us s1 ⟨vs, H1, I1, r1, q, ex, alt⟩ => ?_) hs rfl))
  subst ex
  cases r1 with
  | cons r rr =>
    cases rr
    cases r
    have own : ∀ b ∈ [s1.heap.objs.size + 1, s1.heap.objs.size], FpOk X pn H1 b := fun b hb => by
      have le : s1.heap.objs.size ≤ b := by
        rcases List.mem_cons.mp hb with z | z
        · omega
        · have := List.mem_singleton.mp z; omega
      exact I1.fpOk le (I1.hok.fresh le)
    rcases alt with ⟨⟨xs, sq⟩, z⟩ | ⟨⟨xs, sq⟩, z⟩
    · obtain ⟨its, rv, il, hz⟩ := I1.list sq
      refine call_enum1 (begins_list q its.toArray) il.isList fun h' en ho hk => wpAny_pyIter_enum en ?_
      have I2 : Inv X pn σ H1 { s1 with heap := h' } := I1.kept (t' := s1.toks) hk
      exact ⟨s1.heap.objs.size + 1, [s1.heap.objs.size + 1, s1.heap.objs.size], _, _, H1, rfl, I2, turn_enum q (s1.heap.objs.size + 1) s1.heap.objs.size, ⟨⟨.none, en⟩, ⟨_, ho, rfl, rfl⟩, Nat.succ_ne_self _⟩, own, z⟩
    · obtain ⟨its, rv, il, hz⟩ := I1.tuple sq
      have il' : s1.heap.IsTuple q its.toArray := il
      have lt : q < s1.heap.objs.size := by obtain ⟨_, e, _⟩ := il'; exact Heap.lt_size e
      refine call_enum1 (begins_tuple q its.toArray) il' fun h' en ho hk => wpAny_pyIter_enum en ?_
      have I2 : Inv X pn σ H1 { s1 with heap := h' } := I1.kept (t' := s1.toks) hk
      exact ⟨s1.heap.objs.size + 1, [s1.heap.objs.size + 1, s1.heap.objs.size], _, _, H1, rfl, I2, turn_enumT q (s1.heap.objs.size + 1) s1.heap.objs.size (Nat.ne_of_lt lt) (Nat.ne_of_lt (Nat.lt_succ_of_lt lt)), ⟨⟨.none, en⟩, ⟨_, ho, rfl, rfl⟩, Nat.succ_ne_self _⟩, own, z⟩
theorem enumL_len (xs : List D) : (enumL xs).length = xs.length := by simp [enumL]
theorem di_enum {els : List Expr} {kx : Nat} {tp : Pos} (h : Ctx X c W k) (ha : PE X a (tD c W fa)) (ns : NS a := by intro _ _; rfl) (hg : Gl X "enumerate" := by rfl) : PI X (.Tuple els kx tp) (.Call (.Name "enumerate" p) [a] [] pos) (tI c W (iCall enumM [fa])) := by
  refine (pi_enumS hg h.bl.enum (da_cons ha da_nil (ns _ _)) (ns _ _)).imp fun σ H R q => (src_end (R0 := RepL c) (F := enumM) q).mono fun v H1 q1 => ?_
  obtain ⟨e, L, T, G, ρ, ds, S, r, p⟩ := q1
  rw [h.hK]
  match ds, r, p with
  | [.lst xs], .cons (@Rep.lst _ _ _ a vs _ h1 h2 h3) .nil, p =>
    exact ⟨a, rfl, .inl ⟨⟨vs, .of (S.subS.lst h1)⟩, p _ L G H1 (LE.refl _) (Same.refl _) S (wk_enumL h1 h2) (by rw [enumL_len]; exact h3)⟩⟩
  | [.tup xs], .cons (@Rep.tup _ _ _ a vs _ h1 h2 h3) .nil, p =>
    exact ⟨a, rfl, .inr ⟨⟨vs, S.subS.sqT h1⟩, p _ L G H1 (LE.refl _) (Same.refl _) S (wk_enumT h1 h2) (by rw [enumL_len]; exact h3)⟩⟩
end
end WW
set_option maxHeartbeats 1000000
namespace WW
open PySem PySem.Spec PyProof.Rows L2
abbrev Bd := D → En → Option En
def forM (b : Bd) (body : Sx) : List D → En → M Fl
  | [], ρ => M.ret (.nx ρ)
  | x :: xs, ρ => match b x ρ with
    | none => M.fail
    | some ρ1 => body ρ1 >>= fun fl => match fl with
      | .nx ρ2 => forM b body xs ρ2
      | .ct ρ2 => forM b body xs ρ2
      | .bk ρ2 => M.ret (.nx ρ2)
      | .rt d => M.ret (.rt d)
def sFor (src : Sr) (b : Bd) (body : Sx) : Sx := fun ρ => src ρ >>= fun xs => forM b body xs ρ
section
variable {X : Cx} {c : Cfg} {W : WX} {k : Nat} {tg a it : Expr} {es : List Expr} {fa : Ex} {fs : List Ex} {pos p : Pos} {src : Sr} {b : Bd} {is : List Nat} {sts : List Stmt} {body : Sx}
theorem ds_for (h : Ctx X c W k) (hp : PassesOwn (model X.prog X.w) X.A X.env X.xe) (hi : PI X tg it (tI c W src)) (hg : PG X tg (gD c is b)) (hb : PSs X sts (tS c W body)) (hs : ∀ x, foldedSetIterable it X.env x = pure x := by intro _; rfl) :
    PS X (.For tg it sts [] pos) (tS c W (sFor src b body)) := by
  refine (ps_for hp h.calm hi hg hb hs).imp fun D σ H q => ?_
  obtain ⟨e, L, T, G, ρ, S, p⟩ := q
  refine ⟨e, L, T, G, ρ, S, ?_⟩
  unfold sFor at p
  cases hr : src ρ T with
  | bad => rw [bnd_bad hr] at p; exact p
  | exn k T' => rw [bnd_exn hr] at p; exact fun L' G' H' h1 h2 S' => p L' G' H' σ ρ h1 h2 S'
  | ok xs T0 =>
    rw [bnd_ok hr] at p
    intro J L0 G0 H0 l0 g0 S0 wk hz
    have p0 : PostS c e W L0 G0 (forM b body xs ρ T0) D := PostS.up p l0 g0
    refine ⟨fun i m σ H => m = xs.length - i ∧ i ≤ xs.length ∧ ∃ L T G ρ, Sta c e L T G H σ ρ ∧ LE L0 L ∧ Same G0 G ∧ PostS c e W L G (forM b body (xs.drop i) ρ T) D,
      ⟨xs.length, by simp, Nat.zero_le _, L0, T0, G0, ρ, S0, LE.refl _, Same.refl _, by simpa using p0⟩, ?_⟩
    rintro i m σ H ⟨rfl, hi, L, T, G, ρ, S, l1, g1, p⟩
    have w := wk e L T G H σ ρ l1 g1 S i hi
    by_cases lt : i < xs.length
    · have hx : xs[i]? = some xs[i] := List.getElem?_eq_getElem lt
      obtain ⟨go, yl⟩ := w.1 _ hx
      rw [List.drop_eq_getElem_cons lt] at p
      refine .inr ⟨go, fun σ' H' => ∃ L T G ρ, Sta c e L T G H' σ' ρ ∧ LE L0 L ∧ Same G0 G ∧ PostS c e W L G (forM b body (xs.drop (i + 1)) ρ T) D, fun σ' H' q => ⟨xs.length - (i + 1), by omega, rfl, lt, q⟩, fun v H2 y => ?_⟩
      obtain ⟨G2, g2, S2, rv⟩ := yl v H2 y
      refine ⟨e, L, T, G2, ρ, xs[i], S2, rv, ?_⟩
      unfold forM at p
      cases hb1 : b xs[i] ρ with
      | none => rw [hb1] at p; exact p
      | some ρ1 =>
        rw [hb1] at p
        intro σ1 S3 _
        refine ⟨e, L, T, G2, ρ1, S3, ?_⟩
        dsimp only at p
        cases hr : body ρ1 T with
        | bad => rw [bnd_bad hr] at p; exact p
        | exn k T' => rw [bnd_exn hr] at p; exact fun L' G' H' σ' ρ' h1 h2 S' => p L' G' H' σ' ρ' h1 (g2.trans h2) S'
        | ok fl T' =>
          rw [bnd_ok hr] at p
          cases fl with
          | nx ρ2 => exact fun L' G' H' σ' h1 h2 S' => ⟨L', T', G', ρ2, S', l1.trans h1, g1.trans (g2.trans h2), PostS.up p h1 (g2.trans h2)⟩
          | ct ρ2 => exact fun L' G' H' σ' h1 h2 S' => ⟨L', T', G', ρ2, S', l1.trans h1, g1.trans (g2.trans h2), PostS.up p h1 (g2.trans h2)⟩
          | bk ρ2 => exact fun L' G' H' σ' h1 h2 S' => p L' G' H' σ' h1 (g2.trans h2) S'
          | rt d => exact fun v L' G' H' σ' ρ' h1 h2 S' r => p v L' G' H' σ' ρ' h1 (g2.trans h2) S' r
    · have e1 : i = xs.length := by omega
      refine .inl ⟨w.2 (by simp [e1]), ?_⟩
      rw [e1, List.drop_length] at p
      exact p L G H σ (LE.refl _) (Same.refl _) S
end
def wipeE (ρ : En) : List Nat → En
  | [] => ρ
  | v :: vs => (wipeE ρ vs).set v none
/-- no list of the def's own is in a slot that the block uses -/
def okW (ρ : En) (vs : List Nat) : Bool := vs.all fun i => match ρ[i]? with
  | some (some (.ol _)) => false
  | some (some (.od _ _)) => false
  | _ => true
def noX {α : Type} (x : M α) : M α := fun T => match x T with
  | .exn _ _ => .bad
  | r => r
def lcM (ρ0 : En) (b : Bd) (t : Tx) (el : Ex) : List D → M (List D)
  | [] => M.ret []
  | x :: xs => match b x ρ0 with
    | none => M.fail
    | some ρ => t ρ >>= fun z => if z = true then el ρ >>= fun y => lcM ρ0 b t el xs >>= fun ys => M.ret (y :: ys) else lcM ρ0 b t el xs
def oLc (src : Sr) (b : Bd) (t : Tx) (el : Ex) (vs : List Nat) : Ox := fun ρ => if okW ρ vs = true then src ρ >>= fun xs => noX (lcM (wipeE ρ vs) b t el xs) else M.fail
def tAll : Tx := fun _ => M.ret true
/-- a target's reading touches the slots told alone -/
def BdOk (b : Bd) (is : List Nat) : Prop := ∀ d ρ ρ', b d ρ = some ρ' → ρ'.length = ρ.length ∧ ∀ j, j ∉ is → ρ'[j]? = ρ[j]?
theorem bdName (i : Nat) : BdOk (bName i) [i] := fun d ρ ρ' h => by
  cases h
  unfold putE
  exact ⟨List.length_set, fun j hj => List.getElem?_set_ne (show i ≠ j from fun z => hj (by simp [z]))⟩
theorem setsE_out : ∀ (is : List Nat) (ds : List D) (ρ : En), (setsE is ds ρ).length = ρ.length ∧ ∀ j, j ∉ is → (setsE is ds ρ)[j]? = ρ[j]?
  | [], _, ρ => ⟨rfl, fun _ _ => rfl⟩
  | i :: is, [], ρ => ⟨rfl, fun _ _ => rfl⟩
  | i :: is, d :: ds, ρ => by
    obtain ⟨h1, h2⟩ := setsE_out is ds (putE ρ i d)
    refine ⟨h1.trans List.length_set, fun j hj => (h2 j fun z => hj (List.mem_cons_of_mem _ z)).trans ?_⟩
    exact List.getElem?_set_ne (show i ≠ j from fun z => hj (z ▸ List.mem_cons_self))
theorem bdTup (is : List Nat) : BdOk (bTup is) is := fun d ρ ρ' h => by
  cases d with
  | tup ds =>
    simp only [bTup] at h
    by_cases z : ds.length = is.length
    · rw [if_pos z] at h; cases h; exact setsE_out is ds ρ
    · rw [if_neg z] at h; cases h
  | _ => cases h
theorem wipe_get {σ : L2.St} {j : Nat} : ∀ (vs : List Nat), (wipe σ vs)[j]? = if j ∈ vs ∧ j < σ.length then some none else σ[j]?
  | [] => by simp [wipe]
  | v :: vs => by
    unfold wipe
    by_cases e : v = j
    · subst e
      by_cases lt : v < σ.length
      · rw [List.getElem?_set_self (by rw [wipe_length]; exact lt)]; simp [lt]
      · rw [List.getElem?_eq_none (by rw [List.length_set, wipe_length]; omega), List.getElem?_eq_none (by omega)]; simp [lt]
    · rw [List.getElem?_set_ne e, wipe_get vs]
      simp [Ne.symm e]
theorem wipeE_length (ρ : En) : ∀ vs : List Nat, (wipeE ρ vs).length = ρ.length
  | [] => rfl
  | v :: vs => by unfold wipeE; rw [List.length_set, wipeE_length ρ vs]
theorem wipeE_get {ρ : En} {j : Nat} : ∀ (vs : List Nat), (wipeE ρ vs)[j]? = if j ∈ vs ∧ j < ρ.length then some none else ρ[j]?
  | [] => by simp [wipeE]
  | v :: vs => by
    unfold wipeE
    by_cases e : v = j
    · subst e
      by_cases lt : v < ρ.length
      · rw [List.getElem?_set_self (by rw [wipeE_length]; exact lt)]; simp [lt]
      · rw [List.getElem?_eq_none (by rw [List.length_set, wipeE_length]; omega), List.getElem?_eq_none (by omega)]; simp [lt]
    · rw [List.getElem?_set_ne e, wipeE_get vs]
      simp [Ne.symm e]
theorem wipe_eq {σ σ' : L2.St} {vs : List Nat} (hl : σ'.length = σ.length) (h : ∀ j, j ∉ vs → σ'[j]? = σ[j]?) : wipe σ' vs = wipe σ vs := by
  apply List.ext_getElem?
  intro j
  rw [wipe_get, wipe_get, hl]
  by_cases z : j ∈ vs
  · by_cases lt : j < σ.length
    · simp [z, lt]
    · simp [z, lt, List.getElem?_eq_none (show σ.length ≤ j by omega), List.getElem?_eq_none (show σ'.length ≤ j by omega)]
  · simp [z, h j z]
section
variable {c : Cfg} {e : Gh} {W : WX} {σ σ2 : L2.St} {ρ ρ2 : En} {L LL : List (List Addr)} {G H G2 H2 : Hp} {T T2 : List Cell} {vs : List Nat}
theorem Sta.wipe (S : Sta c e L T G H σ ρ) (vs : List Nat) : Sta c e L T G H (L2.wipe σ vs) (wipeE ρ vs) := by
  have gt : ∀ {j : Nat} {sv : SV}, (wipeE ρ vs)[j]? = some (some sv) → j ∉ vs ∧ ρ[j]? = some (some sv) := fun {j sv} h => by
    rw [wipeE_get] at h
    by_cases z : j ∈ vs
    · by_cases lt : j < ρ.length
      · rw [if_pos ⟨z, lt⟩] at h; cases h
      · rw [if_neg (fun q => lt q.2), List.getElem?_eq_none (by omega)] at h; cases h
    · rw [if_neg (fun q => z q.1)] at h
      exact ⟨z, h⟩
  have st : ∀ {j : Nat}, j ∉ vs → (L2.wipe σ vs)[j]? = σ[j]? := fun {j} h => by rw [wipe_get, if_neg (fun q => h q.1)]
  refine ⟨S.sub, S.same, S.store, S.ldist, S.lfree, S.lmem0, S.l0free, S.gnew, S.l0there, S.l0h, by rw [L2.wipe_length, wipeE_length, S.len], fun j sv h => ?_, fun q hq => ?_, fun i j x y hij hi hj ox oy => ?_⟩
  · obtain ⟨z, h⟩ := gt h
    rw [st z]
    exact S.slot j sv h
  · obtain ⟨h1, h2, h3, h4, h5, h6⟩ := S.xown q hq
    refine ⟨h1, h2, h3, h4, h5, fun j sv h ow => ?_⟩
    obtain ⟨z, h⟩ := gt h
    rw [st z]
    exact h6 j sv h ow
  · obtain ⟨z1, hi⟩ := gt hi
    obtain ⟨z2, hj⟩ := gt hj
    rw [st z1, st z2]
    exact S.disj i j x y hij hi hj ox oy
theorem okW_out (ok : okW ρ vs = true) {j : Nat} {sv : SV} (h : ρ[j]? = some (some sv)) (ow : Own sv) : j ∉ vs := fun z => by
  have q := List.all_eq_true.mp ok j z
  rw [h] at q
  cases sv with
  | d x => exact ow
  | ol x => simp at q
  | od x y => simp at q
/-- behind a block: the slots as they were -/
theorem Sta.back {e2 : Gh} (S : Sta c e L T G H σ ρ) (S2 : Sta c e2 LL T2 G2 H2 σ2 ρ2) (he : e2 = e) (hL : LE L LL) (hG : Same G G2) (ok : okW ρ vs = true) (hσ : ∀ j, j ∉ vs → σ2[j]? = σ[j]?) (hρ : ∀ j, j ∉ vs → ρ2[j]? = ρ[j]?) : Sta c e LL T2 G2 H2 σ ρ := by
  subst he
  refine ⟨S2.sub, S2.same, S2.store, S2.ldist, S2.lfree, S2.lmem0, S2.l0free, S2.gnew, S2.l0there, S2.l0h, S.len, fun j sv h => ?_, fun q hq => ?_, S.disj⟩
  · cases sv with
    | d x =>
      obtain ⟨v, h1, h2⟩ := S.slot j _ h
      exact ⟨v, h1, h2.up hL hG⟩
    | ol x =>
      have z := okW_out ok h trivial
      rw [← hσ j z]
      exact S2.slot j _ (by rw [hρ j z]; exact h)
    | od x y =>
      have z := okW_out ok h trivial
      rw [← hσ j z]
      exact S2.slot j _ (by rw [hρ j z]; exact h)
  · obtain ⟨h1, h2, h3, h4, h5, h6⟩ := S2.xown q hq
    refine ⟨h1, h2, h3, h4, h5, fun j sv h ow => ?_⟩
    have z := okW_out ok h ow
    rw [← hσ j z]
    exact h6 j sv (by rw [hρ j z]; exact h) ow
/-- a thing of one's own is kept apart -/
def Gh.add (e : Gh) (q : Addr × HO) : Gh := { e with xo := q :: e.xo }
theorem Sta.addx (S : Sta c e L T G H σ ρ) {q : Addr × HO} (h1 : H q.1 = some q.2) (h2 : G q.1 = none) (h3 : q.1 ∉ L.flatten) (h4 : q.1 ∉ e.L0.flatten) (h5 : e.H0 q.1 = none) (h6 : ∀ (i : Nat) (sv : SV), ρ[i]? = some (some sv) → Own sv → σ[i]? ≠ some (some (.ref q.1))) :
    Sta c (e.add q) L T G H σ ρ := by
  refine ⟨S.sub, S.same, S.store, S.ldist, S.lfree, S.lmem0, S.l0free, S.gnew, S.l0there, S.l0h, S.len, S.slot, fun y hy => ?_, S.disj⟩
  rcases List.mem_cons.mp hy with z | z
  · subst z; exact ⟨h1, h2, h3, h4, h5, h6⟩
  · exact S.xown y z
theorem Sta.delx {q : Addr × HO} (S : Sta c (e.add q) L T G H σ ρ) : Sta c e L T G H σ ρ :=
  ⟨S.sub, S.same, S.store, S.ldist, S.lfree, S.lmem0, S.l0free, S.gnew, S.l0there, S.l0h, S.len, S.slot, fun y hy => S.xown y (List.mem_cons_of_mem _ hy), S.disj⟩
theorem Sta.hadx {q : Addr × HO} (S : Sta c (e.add q) L T G H σ ρ) : H q.1 = some q.2 ∧ G q.1 = none ∧ q.1 ∉ L.flatten ∧ q.1 ∉ e.L0.flatten ∧ e.H0 q.1 = none ∧ ∀ (i : Nat) (sv : SV), ρ[i]? = some (some sv) → Own sv → σ[i]? ≠ some (some (.ref q.1)) :=
  S.xown q List.mem_cons_self
/-- what is kept apart changes -/
theorem Sta.setx {p : Addr} {o o' : HO} (S : Sta c (e.add (p, o)) L T G H σ ρ) (hx : ∀ q ∈ e.xo, q.1 ≠ p) : Sta c (e.add (p, o')) L T G (upd H p o') σ ρ := by
  obtain ⟨k1, k2, k3, k4, k5, k6⟩ := S.hadx
  have ne : ∀ {a : Addr} {u : HO}, a ≠ p → H a = some u → upd H p o' a = some u := fun n h => by rw [upd_ne n]; exact h
  refine ⟨fun a u h => ?_, fun a u h hl => ?_, S.store.keeps fun a ha u h => ne (fun z => k3 (z ▸ ha)) h, S.ldist, S.lfree, S.lmem0, S.l0free, S.gnew, fun a ha => ?_, S.l0h, S.len, fun i sv h => ?_, fun q hq => ?_, S.disj⟩
  · have n : a ≠ p := fun z => by rw [z, k2] at h; cases h
    rcases S.sub a u h with z | ⟨z, ob, y⟩
    · exact .inl (ne n z)
    · exact .inr ⟨z, ob, ne n y⟩
  · have n : a ≠ p := fun z => by rw [z] at h; exact absurd ((show e.H0 p = some u from h).symm.trans k5) (by simp)
    obtain ⟨z1, z2⟩ := S.same a u h hl
    refine ⟨fun m => ne n (z1 m), fun m => ?_⟩
    obtain ⟨ob, z⟩ := z2 m
    exact ⟨ob, ne n z⟩
  · rw [upd_ne (show a ≠ p from fun z => k4 (z ▸ ha))]
    exact S.l0there a ha
  · obtain ⟨v, h1, h2⟩ := S.slot i sv h
    refine ⟨v, h1, ?_⟩
    cases sv with
    | d x => exact h2
    | ol ds =>
      obtain ⟨q, vs, rfl, h3, h4⟩ := h2
      exact ⟨q, vs, rfl, ne (fun z => k6 i _ h trivial (by rw [h1, z])) h3, h4⟩
    | od ks vs =>
      obtain ⟨q, u, rfl, h3, h4⟩ := h2
      exact ⟨q, u, rfl, ne (fun z => k6 i _ h trivial (by rw [h1, z])) h3, h4⟩
  · rcases List.mem_cons.mp hq with z | z
    · subst z; exact ⟨upd_same, k2, k3, k4, k5, k6⟩
    · obtain ⟨h1, h2⟩ := S.xown q (List.mem_cons_of_mem _ z)
      exact ⟨ne (hx q z) h1, h2⟩
end
end WW
set_option maxHeartbeats 1000000
namespace WW
open PySem PySem.Spec PyProof.Rows L2
abbrev W0 : WX := fun _ _ _ _ => False
theorem bind_ok {α β : Type} {x : M α} {f : α → M β} {T T' : List Cell} {y : β} (h : (x >>= f) T = .ok y T') : ∃ a T1, x T = .ok a T1 ∧ f a T1 = .ok y T' := by
  cases q : x T with
  | bad => rw [bnd_bad q] at h; cases h
  | exn k t => rw [bnd_exn q] at h; cases h
  | ok a t => rw [bnd_ok q] at h; exact ⟨a, t, rfl, h⟩
theorem lcM_ok {ρ0 : En} {b : Bd} {t : Tx} {el : Ex} {x : D} {xs ys : List D} {T T' : List Cell} (h : lcM ρ0 b t el (x :: xs) T = .ok ys T') : ∃ ρ1 z Tz, b x ρ0 = some ρ1 ∧ t ρ1 T = .ok z Tz ∧
    ((z = true ∧ ∃ y Ty r, el ρ1 Tz = .ok y Ty ∧ lcM ρ0 b t el xs Ty = .ok r T' ∧ ys = y :: r) ∨ (z = false ∧ lcM ρ0 b t el xs Tz = .ok ys T')) := by
  unfold lcM at h
  cases hb : b x ρ0 with
  | none => rw [hb] at h; cases h
  | some ρ1 =>
    rw [hb] at h
    obtain ⟨z, Tz, h1, h2⟩ := bind_ok h
    refine ⟨ρ1, z, Tz, rfl, h1, ?_⟩
    cases z with
    | false => exact .inr ⟨rfl, h2⟩
    | true =>
      obtain ⟨y, Ty, h3, h4⟩ := bind_ok h2
      obtain ⟨r, Tr, h5, h6⟩ := bind_ok h4
      cases h6
      exact .inl ⟨rfl, y, Ty, r, h3, h5, rfl⟩
theorem noX_ok {α : Type} {x : M α} {T T' : List Cell} {y : α} (h : noX x T = .ok y T') : x T = .ok y T' := by
  unfold noX at h
  cases q : x T with
  | bad => rw [q] at h; cases h
  | exn k t => rw [q] at h; cases h
  | ok a t => rw [q] at h; exact h
section
variable {X : Cx} {c : Cfg} {W : WX} {k : Nat} {src : Sr} {b : Bd} {t : Tx} {el : Ex} {is vs : List Nat} {σ : L2.St} {H : Hp} {Q : VK}
theorem lc_end (hb : BdOk b is) (hv : ∀ i ∈ is, i ∈ vs) (q : tO c W (oLc src b t el vs) σ H Q) : tLc (tI c W src) (gD c is b) (tT c W0 t) (tD c W0 el) vs σ H Q := by
  obtain ⟨e, L, T, G, ρ, S, p⟩ := q
  refine ⟨e, L, T, G, ρ, S, ?_⟩
  unfold oLc at p
  by_cases ok : okW ρ vs = true
  · rw [if_pos ok] at p
    cases hr : src ρ T with
    | bad => rw [bnd_bad hr] at p; exact p
    | exn k T' => rw [bnd_exn hr] at p; exact p
    | ok xs T0 =>
      rw [bnd_ok hr] at p
      intro J L0 G0 H0 l0 g0 S0 wk hz
      intro D hD
      -- the whole run succeeds
      cases hr2 : noX (lcM (wipeE ρ vs) b t el xs) T0 with
      | bad => rw [hr2] at p; exact p.elim
      | exn k T' => unfold noX at hr2; cases q2 : lcM (wipeE ρ vs) b t el xs T0 <;> rw [q2] at hr2 <;> cases hr2
      | ok ys T2 =>
        rw [hr2] at p
        have all := noX_ok hr2
        have nx := S0.notx hD
        have fr0 : ∀ o : HO, Sta c (e.add (D, o)) L0 T0 G0 (upd H0 D o) σ ρ := fun o => (S0.grow hD).addx upd_same (S0.gnone hD) (S0.notcell hD) (S0.notcell0 hD) (S0.h0none hD (S0.notcell hD) (S0.notcell0 hD)) (S0.notslot hD)
        refine ⟨fun i m H => m = xs.length - i ∧ i ≤ xs.length ∧ ∃ L T G vacc acc r, Sta c (e.add (D, .lst vacc)) L T G H σ ρ ∧ LE L0 L ∧ Same G0 G ∧ RepL c L G vacc acc ∧ acc.length ≤ i ∧ lcM (wipeE ρ vs) b t el (xs.drop i) T = .ok r T2 ∧ ys = acc ++ r,
          ⟨xs.length, by simp, Nat.zero_le _, L0, T0, G0, [], [], ys, fr0 _, LE.refl _, Same.refl _, .nil, Nat.le_refl _, by simpa using all, rfl⟩, ?_⟩
        rintro i m H ⟨rfl, hi, L, T, G, vacc, acc, r, S, l1, g1, ra, la, hl, hys⟩
        have w := wk _ L T G H σ ρ l1 g1 S i hi
        by_cases lt : i < xs.length
        · have hx : xs[i]? = some xs[i] := List.getElem?_eq_getElem lt
          obtain ⟨go, yl⟩ := w.1 _ hx
          rw [List.drop_eq_getElem_cons lt] at hl
          obtain ⟨ρ1, z, Tz, hb1, ht, alt⟩ := lcM_ok hl
          obtain ⟨bl, bo⟩ := hb _ _ _ hb1
          have bo' : ∀ j, j ∉ vs → ρ1[j]? = ρ[j]? := fun j hj => by rw [bo j fun z => hj (hv j z), wipeE_get, if_neg (fun q => hj q.1)]
          refine .inr ⟨go, fun H' => i + 1 ≤ xs.length ∧ ∃ L T G vacc acc r, Sta c (e.add (D, .lst vacc)) L T G H' σ ρ ∧ LE L0 L ∧ Same G0 G ∧ RepL c L G vacc acc ∧ acc.length ≤ i + 1 ∧ lcM (wipeE ρ vs) b t el (xs.drop (i + 1)) T = .ok r T2 ∧ ys = acc ++ r,
            fun H' q => ⟨xs.length - (i + 1), by omega, rfl, q⟩, fun v H2 y => ?_⟩
          obtain ⟨G2, g2, S2, rv⟩ := yl v H2 y
          refine ⟨_, L, T, G2, wipeE ρ vs, xs[i], S2.wipe vs, rv, ?_⟩
          rw [hb1]
          intro σ1 S3 so
          have so' : ∀ j, j ∉ vs → σ1[j]? = σ[j]? := fun j hj => by rw [so j fun z => hj (hv j z), wipe_get, if_neg (fun q => hj q.1)]
          have sl : σ1.length = σ.length := by rw [S3.len, bl, wipeE_length, S2.len]
          refine ⟨wipe_eq sl so', _, L, T, G2, ρ1, S3, ?_⟩
          rw [ht]
          intro z' L3 G3 H3 l3 g3 S4 ez
          subst ez
          rcases alt with ⟨rfl, y, Ty, r', he, hr', rfl⟩ | ⟨rfl, hr'⟩
          · rw [if_pos rfl]
            refine ⟨_, L3, _, G3, ρ1, S4, ?_⟩
            rw [he]
            intro u L4 G4 H4 l4 g4 S5 ru
            have S6 := S2.back S5 rfl (l3.trans l4) (g3.trans g4) ok so' bo'
            have hD4 := S6.hadx.1
            refine ⟨vacc, hD4, ?_, by omega, L4, Ty, G4, vacc ++ [u], acc ++ [y], r', S6.setx nx, l1.trans (l3.trans l4), g1.trans (g2.trans (g3.trans g4)), (ra.up (l3.trans l4) (g2.trans (g3.trans g4))).snoc ru, by simp; exact la, hr', by rw [hys, List.append_assoc]; rfl⟩
            rw [ra.length]
            omega
          · rw [if_neg (by simp)]
            exact ⟨by omega, L3, _, G3, vacc, acc, r, S2.back S4 rfl l3 g3 ok so' bo', l1.trans l3, g1.trans (g2.trans g3), ra.up l3 (g2.trans g3), by omega, hr', hys⟩
        · have e1 : i = xs.length := by omega
          refine .inl ⟨w.2 (by simp [e1]), ?_⟩
          rw [e1, List.drop_length] at hl
          cases hl
          obtain ⟨k1, k2, k3, k4, k5, k6⟩ := S.hadx
          rw [List.append_nil] at hys
          subst hys
          exact p D L G H (l0.trans l1) (g0.trans g1) S.delx ⟨⟨vacc, k1, ra, by omega⟩, k2, k3, k4, k5, nx, k6⟩
  · rw [if_neg ok] at p
    exact p.elim
/-- the block's context -/
theorem Ctx.blk (h : Ctx X c W k) (s : Shared) (H : Hp) (sc : Scope) (ce : Env) (fp : List Addr) : Ctx (X.blk s H sc ce fp) c W0 k := ⟨h.hP, h.hw, h.hK, h.calm, h.nd, h.room, takes0, h.bl⟩
theorem _root_.L2.PTs.imp {es : List Expr} {t t' : TT} (h : PTs X es t) (i : ∀ σ H Q, t' σ H Q → t σ H Q) : PTs X es t' := ⟨fun pn st σ H Q I q => h.run pn st σ H Q I (i σ H Q q)⟩
theorem dts_nil : PTs X [] (tT c W tAll) := pts_nil.imp fun σ H Q ⟨e, L, T, G, ρ, S, p⟩ => p true L G H (LE.refl _) (Same.refl _) S rfl
theorem dts_one {a : Expr} (h : PT X a (tT c W t)) : PTs X [a] (tT c W t) := pts_one h
variable {elt tg it : Expr} {ifs : List Expr} {scope : Scope} {pos spos : Pos}
/-- [elt for tg in it if ..] -/
theorem do_lc (own : List (Str × Nat)) (h : Ctx X c W k) (hi : PI X tg it (tI c W src)) (ok : BlkOk X.N X.env.scope scope own) (hb : BdOk b is) (hv : ∀ i ∈ is, i ∈ own.map (·.2))
    (hin : ∀ (s : Shared) (H : Hp) (C : Addr) (cl : List (Str × Addr)) (fp : List Addr), Ctx (X.blk s H scope (compEnvC scope cl C X.env) fp) c W0 k →
      PG (X.blk s H scope (compEnvC scope cl C X.env) fp) tg (gD c is b) ∧ PTs (X.blk s H scope (compEnvC scope cl C X.env) fp) ifs (tT c W0 t) ∧ PE (X.blk s H scope (compEnvC scope cl C X.env) fp) elt (tD c W0 el))
    (hs : ∀ x, foldedSetIterable it X.env x = pure x := by intro _; rfl) : PE X (.ListComp elt [⟨tg, it, ifs, 0⟩] scope pos) (tO c W (oLc src b t el (own.map (·.2)))) :=
  (pe_lc h.calm h.nd hi ok (fun s H C cl fp => (hin s H C cl fp (h.blk ..)).1) (fun s H C cl fp => (hin s H C cl fp (h.blk ..)).2.1) (fun s H C cl fp => (hin s H C cl fp (h.blk ..)).2.2) hs).imp fun σ H Q q => lc_end hb hv q
/-- name = [..] -/
theorem ds_setLc {y : Str} {py : Pos} (i : Nat) (own : List (Str × Nat)) (h : Ctx X c W k) (hi : PI X tg it (tI c W src)) (ok : BlkOk X.N X.env.scope scope own) (hb : BdOk b is) (hv : ∀ i ∈ is, i ∈ own.map (·.2))
    (hin : ∀ (s : Shared) (H : Hp) (C : Addr) (cl : List (Str × Addr)) (fp : List Addr), Ctx (X.blk s H scope (compEnvC scope cl C X.env) fp) c W0 k →
      PG (X.blk s H scope (compEnvC scope cl C X.env) fp) tg (gD c is b) ∧ PTs (X.blk s H scope (compEnvC scope cl C X.env) fp) ifs (tT c W0 t) ∧ PE (X.blk s H scope (compEnvC scope cl C X.env) fp) elt (tD c W0 el))
    (hy : X.N[i]? = some y := by rfl) (hyl : X.env.scope.names.lookup y = some .local := by rfl) (hsw : swapsWith (.ListComp elt [⟨tg, it, ifs, 0⟩] scope pos) (some (.Name y py)) spos.line X.env = pure true := by rfl)
    (hs : ∀ x, foldedSetIterable it X.env x = pure x := by intro _; rfl) : PS X (.Assign [.Name y py] (.ListComp elt [⟨tg, it, ifs, 0⟩] scope pos) spos) (tS c W (sSetO i (oLc src b t el (own.map (·.2))))) := by
  refine (ps_setLc h.calm h.nd hy hyl hsw hi ok (fun s H C cl fp => (hin s H C cl fp (h.blk ..)).1) (fun s H C cl fp => (hin s H C cl fp (h.blk ..)).2.1) (fun s H C cl fp => (hin s H C cl fp (h.blk ..)).2.2) hs).imp fun D σ H q => ?_
  refine lc_end hb hv ?_
  obtain ⟨e, L, T, G, ρ, S, p⟩ := q
  refine ⟨e, L, T, G, ρ, S, ?_⟩
  unfold sSetO at p
  cases hr : oLc src b t el (own.map (·.2)) ρ T with
  | bad => rw [bnd_bad hr] at p; exact p
  | exn k T' => rw [bnd_exn hr] at p; exact fun L' G' H' h1 h2 S' => p L' G' H' σ ρ h1 h2 S'
  | ok ds T' =>
    rw [bnd_ok hr] at p
    exact fun q L' G' H' h1 h2 S' fr => p L' G' H' _ h1 h2 (S'.putO fr)
end
end WW
set_option maxHeartbeats 1000000
namespace WW
open PySem PySem.Spec PyProof.Rows L2
def startE (n : Nat) (ds : List D) : En := ds.map (fun d => some (.d d)) ++ List.replicate (n - ds.length) none
def endM : Fl → M D
  | .nx _ => M.ret .non
  | .rt d => M.ret d
  | _ => M.fail
/-- the mirror of a def with n names -/
def runB (n : Nat) (f : Sx) : List D → M D := fun ds => f (startE n ds) >>= endM
section
variable {c : Cfg} {L : List (List Addr)} {G H : Hp} {T : List Cell} {ds : List D} {vs : List V} {N : List Str}
theorem start_get {i : Nat} {sv : SV} {n : Nat} (h : (startE n ds)[i]? = some (some sv)) : ∃ d, ds[i]? = some d ∧ sv = .d d := by
  unfold startE at h
  by_cases lt : i < ds.length
  · rw [List.getElem?_append_left (by simpa using lt), List.getElem?_map] at h
    cases q : ds[i]? with
    | none => rw [q] at h; cases h
    | some d => rw [q] at h; cases h; exact ⟨d, rfl, rfl⟩
  · rw [List.getElem?_append_right (by simpa using lt), List.getElem?_replicate] at h
    split at h <;> cases h
theorem sta_start (sub : Sub G H) (st : StoreRep H L T) (nd : L.flatten.Nodup) (lf : ∀ a ∈ L.flatten, G a = none) (r : RepL c L G vs ds) (n : Nat) (hN : N.length = n) : Sta c ⟨L, H, G, [], []⟩ L T G H (L2.start N vs) (startE n ds) := by
  subst hN
  refine ⟨sub, fun a o ha hl => ⟨fun _ => ha, fun m => by cases m⟩, st, nd, lf, fun a ha => .inl ha, lf, fun a ha => .inl ha, st.there, st.there, ?_, fun i sv h => ?_, fun q hq => absurd hq (by simp), fun i j x y _ hi _ ox _ => ?_⟩
  · unfold L2.start startE
    rw [List.length_append, List.length_append, List.length_map, List.length_map, List.length_replicate, List.length_replicate, r.length]
  · obtain ⟨d, hd, rfl⟩ := start_get h
    obtain ⟨v, hv, rv⟩ := r.get hd
    refine ⟨v, ?_, rv⟩
    unfold L2.start
    have lt : i < vs.length := (List.getElem?_eq_some_iff.mp hv).1
    rw [List.getElem?_append_left (by simpa using lt), List.getElem?_map, hv]
    rfl
  · obtain ⟨d, _, rfl⟩ := start_get hi
    exact ox.elim
theorem after_of {L' : List (List Addr)} {T' : List Cell} {G' H' : Hp} {σ : L2.St} {ρ : En} (S : Sta c ⟨L, H, G, [], []⟩ L' T' G' H' σ ρ) (hL : LE L L') (hG : Same G G') : After c L G H L' T' G' H' :=
  ⟨hL, hG, S.sub, S.store, S.ldist, S.lfree, fun a o h hl => (S.same a o h hl).1 (by simp), S.lmem0, S.l0there, S.gnew, S.l0free⟩
end
/-- a class of one's own exceptions -/
structure XC (c : Cfg) (mg : Str → Option Value) (x : Str) (k : Nat) : Prop where
  g : mg x = some (.ref (c.CA k))
  ex : PySem.W.excIn c.K (c.CA k) He.veBase "ValueError.__new__" = true
  keep : PySem.W.keepIn c.K (.ref (c.CA k)) = true
  sub : PySem.W.subIn c.K (.ref (c.CA k)) (.type "BaseException") = some true
  ty : PySem.W.typeIn c.K (.ref (c.CA k)) = some (.type "type")
abbrev CxW (c : Cfg) (mg : Str → Option Value) (base : Heap) (N : List Str) (x : Str) (sc : Scope) (f : Addr) (cdv : Value) (A : Around) (outer : List Env) (s : Shared) (H : Hp) (E : XK) : Cx := cxOf (L2.CX c.P c.w) c.P c.w c.K mg base N x sc f cdv A outer s H E
abbrev WX0 (E : XK) : WX := fun cls d _ H => E cls d H
section
variable {c : Cfg} {mg : Str → Option Value} {base : Heap} {x : Str} {ps N : List Str} {pr : Arguments} {body : List Stmt} {sc : Scope} {k : Nat} {fb : Sx}
/-- THE RULE of a def: its body does what the mirror says -/
theorem Fn.of {f : Addr} {fd : FuncData} {dvs : List V} {kws : List (Str × V)} (n : Nat) (F : FunD c.K x x pr body sc dvs kws f fd) (S : FnScope N ps sc) (hm : mg x = some (.ref f)) (hB : Binds c.K fd ps []) (bl : BL mg) (hN : N.length = n)
    (hb : ∀ (cdv : Value) (A : Around) (outer : List Env) (s : Shared) (H : Hp) (E : XK), Ctx (CxW c mg base N x sc f cdv A outer s H E) c (WX0 E) k → PassesOwn (model c.P c.w) (CxW c mg base N x sc f cdv A outer s H E).A (CxW c mg base N x sc f cdv A outer s H E).env (CxW c mg base N x sc f cdv A outer s H E).xe →
      PSs (CxW c mg base N x sc f cdv A outer s H E) body (tS c (WX0 E) fb)) : Fn c mg base x ps (k + 1) (runB n fb) := by
  refine ⟨f, fd, hm, F.kp, hB, F.ok S (fun vs H Q E h => h.1) fun cdv A outer s H vs Q E hr h => ⟨tS c (WX0 E) fb, hb cdv A outer s H E ⟨rfl, rfl, rfl, rfl, S.nd, hr, takes_of rfl rfl rfl rfl, bl⟩ (passes_of rfl), ?_⟩⟩
  obtain ⟨hl, L, T, G, ds, sub, st, nd, lf, r, p⟩ := h
  refine ⟨⟨L, H, G, [], []⟩, L, T, G, startE n ds, sta_start sub st nd lf r n hN, ?_⟩
  unfold runB at p
  cases hr : fb (startE n ds) T with
  | bad => rw [bnd_bad hr] at p; exact p
  | exn j T' =>
    rw [bnd_exn hr] at p
    exact fun L' G' H' σ' ρ' h1 h2 S' => p L' G' H' (after_of S' h1 h2)
  | ok fl T' =>
    rw [bnd_ok hr] at p
    cases fl with
    | nx ρ' => exact fun L' G' H' σ' h1 h2 S' => p .non L' G' H' (after_of S' h1 h2) .non
    | rt d => exact fun v L' G' H' σ' ρ' h1 h2 S' rv => p v L' G' H' (after_of S' h1 h2) rv
    | bk ρ' => exact False.elim p
    | ct ρ' => exact False.elim p
theorem Fn.mono {j : Nat} {F : List D → M D} (h : Fn c mg base x ps k F) (e : k ≤ j) : Fn c mg base x ps j F := by
  obtain ⟨f, fd, h1, h2, h3, h4⟩ := h.ex
  exact ⟨f, fd, h1, h2, h3, h4.mono e⟩
end
section
variable {X : Cx} {c : Cfg} {W : WX} {k j : Nat} {pos p p2 pos' : Pos} {x m : Str}
theorem ds_raise (n : Nat) (h : Ctx X c W k) (C : XC c X.mg x n) (hg : Gl X x := by rfl) (hdb : (x == ("__debug__" : Str)) = false := by decide) : PS X (.Raise (some (.Call (.Name x p) [.Constant (.str m) j p2] [] pos)) none pos') (tS c W (sRaise n)) := by
  refine (ps_raise h.calm h.tk (pmk_own PySem.F.excBase_ValueError (h.hK ▸ C.ex) C.g (h.hK ▸ C.keep) (raises_own (h.hK ▸ C.sub) (h.hK ▸ C.ty)) hg hdb)).imp fun D σ H q => ?_
  obtain ⟨e, L, T, G, ρ, S, p⟩ := q
  exact p L G H σ ρ (LE.refl _) (Same.refl _) S
theorem de_gint {i : Int} (hm : ∃ t, X.mg x = some (.int i t)) (hg : Gl X x := by rfl) (hd : (x == ("__debug__" : Str)) = false := by decide) : PE X (.Name x pos) (tD c W (dC (.int i))) := by
  obtain ⟨t, hm⟩ := hm
  exact (pe_glob (v := .int i) hg hm ⟨t, rfl⟩ hd).imp fun σ H Q ⟨e, L, T, G, ρ, S, p⟩ => p _ L G H (LE.refl _) (Same.refl _) S (.int i)
/-- a tuple of the module: its items are plain -/
def plainV : D → Option V
  | .non => some .non
  | .bl b => some (.bl b)
  | .int i => some (.int i)
  | .str s => if PyData.strOk s then some (.str s) else none
  | _ => none
def plainVs : List D → Option (List V)
  | [] => some []
  | d :: ds => match plainV d, plainVs ds with
    | some v, some vs => some (v :: vs)
    | _, _ => none
theorem plain_rep {L : List (List Addr)} {G : Hp} : ∀ {ds : List D} {vs : List V}, plainVs ds = some vs → RepL c L G vs ds
  | [], vs, h => by cases h; exact .nil
  | d :: ds, vs, h => by
    unfold plainVs at h
    cases h1 : plainV d with
    | none => rw [h1] at h; cases h
    | some v =>
      cases h2 : plainVs ds with
      | none => rw [h1, h2] at h; cases h
      | some r =>
        rw [h1, h2] at h
        cases h
        refine .cons ?_ (plain_rep h2)
        cases d with
        | str s =>
          simp only [plainV] at h1
          by_cases z : PyData.strOk s = true
          · rw [if_pos z] at h1; cases h1; exact .str s z
          · rw [if_neg z] at h1; cases h1
        | non => cases h1; exact .non
        | bl b => cases h1; exact .bl b
        | int b => cases h1; exact .int b
        | _ => cases h1
/-- what stands in K as a tuple -/
structure GT (c : Cfg) (a : Addr) (ds : List D) : Prop where
  tup : ∃ vs, plainVs ds = some vs ∧ ∀ H : Hp, SqT c.K H a vs
  len : ds.length ≤ sizeLine
theorem GT.rep {a : Addr} {ds : List D} (h : GT c a ds) (L : List (List Addr)) (G : Hp) : Rep c L G (.ref a) (.tup ds) := by
  obtain ⟨vs, h1, h2⟩ := h.tup
  exact .tup (h2 G) (plain_rep h1) h.len
theorem de_gtup {a : Addr} {ds : List D} (hm : X.mg x = some (.ref a)) (t : GT c a ds) (hg : Gl X x := by rfl) (hd : (x == ("__debug__" : Str)) = false := by decide) : PE X (.Name x pos) (tD c W (dC (.tup ds))) :=
  (pe_glob (v := .ref a) hg hm rfl hd).imp fun σ H Q ⟨e, L, T, G, ρ, S, p⟩ => p _ L G H (LE.refl _) (Same.refl _) S (t.rep L G)
end
/-- the keyword-only default of the def f, if it is an object -/
def kwAt (f y : Str) (K : PySem.W.Frag) : Addr := match K.lookup (He.fAd K (f, none)) with
  | some ⟨_, _, .func fd, _⟩ => (match fd.kwdefaults with
    | .ref d => (match PySem.W.nsIn K d y with
      | some (some (.ref a)) => a
      | _ => 0)
    | _ => 0)
  | _ => 0
/-- a tuple by a way of one's own -/
def tupAt (K : PySem.W.Frag) (a : Addr) (vs : List V) : Bool := match K.lookup a with
  | some ⟨.type t, _, .seq its _, _⟩ => decide (t = "tuple") && (decide (its.size ≤ sizeLine) && He.relAll vs its.toList)
  | _ => false
theorem tupAt_ok {K : PySem.W.Frag} {a : Addr} {vs : List V} (h : tupAt K a vs = true) (H : Hp) : SqT K H a vs := by
  unfold tupAt at h
  cases q : K.lookup a with
  | none => rw [q] at h; cases h
  | some o =>
    obtain ⟨oc, od, dt, osl⟩ := o
    rw [q] at h
    cases oc with
    | type t =>
      cases dt with
      | seq its n =>
        have h' : (decide (t = "tuple") && (decide (its.size ≤ sizeLine) && He.relAll vs its.toList)) = true := h
        simp only [Bool.and_eq_true, decide_eq_true_eq] at h'
        obtain ⟨rfl, h3, h4⟩ := h'
        exact .inr ⟨_, its, n, q, rfl, rfl, h3, He.relAll_ok h4⟩
      | _ => cases h
    | _ => cases dt <;> cases h
abbrev Tp := (PySem.W.Frag → Addr) × List V
abbrev AlY : Type := Bool × He.AlD
def obsY (fa : List He.Fa) (ts : List Tp) (fn : List He.DefD) (K : PySem.W.Frag) : AlY := (ts.all fun q => tupAt K (q.1 K) q.2, He.obsD fa fn K)
def valY (fn : List He.DefD) : AlY := (true, He.valD fn)
def obsYG (n : Nat) (fa : List He.Fa) (ts : List Tp) (fn : List He.DefD) (g : Addr → Option Obj) : AlY := obsY fa ts fn (He.frG g (He.asD g n))
def SaysY (fa : List He.Fa) (ts : List Tp) (fn : List He.DefD) (K : PySem.W.Frag) : Prop := obsY fa ts fn K = valY fn
def hookY (n : Nat) (fa : List He.Fa) (ts : List Tp) (fn : List He.DefD) : PySem.W.Hook where
  α := AlY
  obs := fun s => obsYG n fa ts fn s.heap.get?
  val := fun _ => valY fn
  says := fun _ h => ∃ K : PySem.W.Frag, K.In h ∧ SaysY fa ts fn K
  of := fun _ _ e => ⟨_, He.frG_in, e⟩
  keeps := fun _ _ _ ⟨K, k1, q⟩ kp => ⟨K, PySem.W.Frag.In.keeps k1 kp, q⟩
theorem obsYG_eq {n : Nat} {fa : List He.Fa} {ts : List Tp} {fn : List He.DefD} {g : Addr → Option Obj} {s : Shared} (h : ∀ a, g a = s.heap.get? a) : obsYG n fa ts fn g = (hookY n fa ts fn).obs s := by
  have e : g = s.heap.get? := funext h
  rw [e] <;> rfl
section
variable {fa : List He.Fa} {ts : List Tp} {fn : List He.DefD} {K : PySem.W.Frag}
theorem SaysY.d (h : SaysY fa ts fn K) : He.SaysD fa fn K := congrArg (fun z : AlY => z.2) h
theorem SaysY.t (h : SaysY fa ts fn K) (i : Nat) {q : Tp} (hi : ts[i]? = some q := by rfl) : tupAt K (q.1 K) q.2 = true := by
  have c1 : (ts.all fun q => tupAt K (q.1 K) q.2) = true := congrArg (fun z : AlY => z.1) h
  exact List.all_eq_true.mp c1 q (List.mem_of_getElem? hi)
end
end WW
set_option maxHeartbeats 1000000
namespace WW
open PySem PySem.Spec PyProof.Rows L2
/-- what a draw of n gives from the numbers ns behind k draws; the numbers behind it -/
def drawStep (ns : List Int) (k n : Int) : Option (Int × List Int) :=
  let i := ((k + 1) % (ns.length : Int)).toNat
  match ns[i]? with
  | none => none
  | some z =>
    if 1000000000000000000 ≤ z then some (z % n, ns.set i (z / n))
    else
      let m := ((z + 104729 * (k + 1)) % 4294967291) ^ 5 % 4294967279
      some ((m / 64 * 69621 + m) % 4294967231 / 8 % n, ns)
def drawM : List D → M D := fun ds T => match ds with
  | [.cell i, .int n] => (match T[i]? with
    | some (.town ns k) => if 0 < n ∧ n < 1073741824 then (match drawStep ns k n with
      | some (r, ns') => .ok (.int r) (T.set i (.town ns' (k + 1)))
      | none => .bad) else .bad
    | _ => .bad)
  | _ => .bad
theorem drawM_ok {ds : List D} {T T' : List Cell} {d : D} (h : drawM ds T = .ok d T') : ∃ i n ns k r ns', ds = [.cell i, .int n] ∧ T[i]? = some (.town ns k) ∧ (0 < n ∧ n < 1073741824) ∧ drawStep ns k n = some (r, ns') ∧ d = .int r ∧ T' = T.set i (.town ns' (k + 1)) := by
  unfold drawM at h
  split at h
  · rename_i i n
    rcases hT : T[i]? with _ | ⟨ns, k⟩
    · rw [hT] at h; cases h
    · rw [hT] at h
      dsimp only at h
      by_cases z : 0 < n ∧ n < 1073741824
      · rw [if_pos z] at h
        rcases hd : drawStep ns k n with _ | ⟨r, ns'⟩
        · rw [hd] at h; cases h
        · rw [hd] at h
          cases h
          exact ⟨i, n, ns, k, r, ns', rfl, hT, z, hd, rfl, rfl⟩
      · rw [if_neg z] at h; cases h
  · cases h
theorem drawM_noexn (ds : List D) (T : List Cell) (j : Nat) (T' : List Cell) : drawM ds T ≠ .exn j T' := fun h => by
  unfold drawM at h
  split at h
  · rename_i i n
    rcases hT : T[i]? with _ | ⟨ns, k⟩
    · rw [hT] at h; cases h
    · rw [hT] at h
      dsimp only at h
      by_cases z : 0 < n ∧ n < 1073741824
      · rw [if_pos z] at h
        rcases hd : drawStep ns k n with _ | ⟨r, ns'⟩
        · rw [hd] at h; cases h
        · rw [hd] at h; cases h
      · rw [if_neg z] at h; cases h
  · cases h
theorem StoreRep.put {H H' : Hp} {r : List Addr} {x : Cell} : ∀ {L : List (List Addr)} {T : List Cell} {i : Nat}, StoreRep H L T → L.flatten.Nodup → L[i]? = some r → (∀ b, b ∉ r → ∀ o, H b = some o → H' b = some o) → CellRep H' r x → StoreRep H' L (T.set i x)
  | _, _, i, .nil, _, e, _, _ => by simp at e
  | _, _, 0, .cons h t, nd, e, k, cr => by
    simp at e; subst e
    rw [List.flatten_cons, List.nodup_append] at nd
    exact .cons cr (t.keeps fun a ha o q => k a (fun z => nd.2.2 a z a ha rfl) o q)
  | _, _, i + 1, .cons h t, nd, e, k, cr => by
    rw [List.flatten_cons, List.nodup_append] at nd
    have e' := e
    rw [List.getElem?_cons_succ] at e
    refine .cons (h.keeps fun a ha o q => k a (fun z => nd.2.2 a ha a (List.mem_flatten.mpr ⟨r, List.mem_of_getElem? e, z⟩) rfl) o q) ?_
    exact StoreRep.put t nd.2.1 e k cr
theorem StoreRep.at_ {H : Hp} : ∀ {L : List (List Addr)} {T : List Cell} {i : Nat} {x : Cell}, StoreRep H L T → T[i]? = some x → ∃ r, L[i]? = some r ∧ CellRep H r x
  | _, _, i, _, .nil, e => by simp at e
  | _, _, 0, _, .cons h _, e => by simp at e; subst e; exact ⟨_, rfl, h⟩
  | _, _, i + 1, _, .cons _ t, e => by
    obtain ⟨r, h1, h2⟩ := StoreRep.at_ (i := i) t (by simpa using e)
    exact ⟨r, by simpa using h1, h2⟩
section
variable {c : Cfg} {L : List (List Addr)} {G H : Hp} {T : List Cell}
/-- behind a draw -/
theorem town_after {i : Nat} {ns ns' : List Int} {k k' : Int} {a p : Addr} (sub : Sub G H) (st : StoreRep H L T) (nd : L.flatten.Nodup) (lf : ∀ a ∈ L.flatten, G a = none) (hL : L[i]? = some [a, p]) :
    After c L G H L (T.set i (.town ns' k')) G (upd (upd H a (.lst [.ref p, .int k'])) p (.lst (ns'.map .int))) := by
  have ma : a ∈ L.flatten := List.mem_flatten.mpr ⟨_, List.mem_of_getElem? hL, by simp⟩
  have mp : p ∈ L.flatten := List.mem_flatten.mpr ⟨_, List.mem_of_getElem? hL, by simp⟩
  have hap : a ≠ p := by
    intro z
    subst z
    have h2 : [a, a].Nodup := by
      have q := List.mem_of_getElem? hL
      clear hL ma mp lf st
      induction L with
      | nil => cases q
      | cons r L ih =>
        rw [List.flatten_cons, List.nodup_append] at nd
        rcases List.mem_cons.mp q with z | z
        · rw [z]; exact nd.1
        · exact ih nd.2.1 z
    simp at h2
  have ne : ∀ {b : Addr} {o : HO}, b ≠ a → b ≠ p → H b = some o → upd (upd H a (.lst [.ref p, .int k'])) p (.lst (ns'.map .int)) b = some o := fun n1 n2 h => by rw [upd_ne n2, upd_ne n1]; exact h
  have out : ∀ {b : Addr}, b ∉ L.flatten → b ≠ a ∧ b ≠ p := fun h => ⟨fun z => h (z ▸ ma), fun z => h (z ▸ mp)⟩
  refine ⟨LE.refl _, Same.refl _, fun b o h => ?_, st.put nd hL (fun b hb o h => ?_) ⟨a, p, rfl, by rw [upd_ne hap, upd_same], by rw [upd_same]⟩, nd, lf, fun b o h hl => ne (out hl).1 (out hl).2 h, fun b hb => .inl hb, fun b hb => ?_, fun b h => .inl h, lf⟩
  · have nl : b ∉ L.flatten := fun z => by rw [lf b z] at h; cases h
    rcases sub b o h with z | ⟨z, ob, y⟩
    · exact .inl (ne (out nl).1 (out nl).2 z)
    · exact .inr ⟨z, ob, ne (out nl).1 (out nl).2 y⟩
  · simp only [List.mem_cons, List.not_mem_nil, or_false, not_or] at hb
    exact ne hb.1 hb.2 h
  · by_cases h1 : b = p
    · subst h1; rw [upd_same]; simp
    · rw [upd_ne h1]
      by_cases h2 : b = a
      · subst h2; rw [upd_same]; simp
      · rw [upd_ne h2]; exact st.there b hb
end
abbrev rAddI : R2 := rI0 fun i j => .int (i + j)
abbrev rModI : R2 := rI (fun _ j => 0 < j) fun i j => .int (i % j)
abbrev rDivI : R2 := rI CDiv fun i j => .int (i / j)
abbrev rMulI : R2 := rI CMul fun i j => .int (i * j)
abbrev rPowI : R2 := rI CPow fun i j => .int (i ^ j.toNat)
abbrev rGeI : R2 := rI0 fun i j => .bl (decide (j ≤ i))
abbrev rLnS (K : PySem.W.Frag) : List V → Hp → VK → Prop := fun xs H Q => ∃ p ys, xs = [.ref p] ∧ (SqL K H p ys ∨ SqT K H p ys) ∧ Q (.int ys.length) H
abbrev tI' (i : Int) : TE := tC (.int i)
def tDraw (K : PySem.W.Frag) : TS :=
  tSeq (tAsg (tOp (rIxL K) (tVar 0) (tI' 0)) (gName 2)) <|
  tSeq (tAsg (tOp rAddI (tOp (rIxL K) (tVar 0) (tI' 1)) (tI' 1)) (gSub (tVar 0) (tI' 1) rSetL)) <|
  tSeq (tAsg (tOp rModI (tOp (rIxL K) (tVar 0) (tI' 1)) (tCB (rLnS K) (tCons (tVar 2) tNil))) (gName 3)) <|
  tSeq (tAsg (tOp (rIxL K) (tVar 2) (tVar 3)) (gName 4)) <|
  tSeq (tIfS (tTest (tOp rGeI (tVar 4) (tI' 1000000000000000000))) (tSeq (tAsg (tOp rDivI (tVar 4) (tVar 1)) (gSub (tVar 2) (tVar 3) rSetL)) (tRet (tOp rModI (tVar 4) (tVar 1)))) tNext) <|
  tSeq (tAsg (tOp rModI (tOp rAddI (tVar 4) (tOp rMulI (tI' 104729) (tOp (rIxL K) (tVar 0) (tI' 1)))) (tI' 4294967291)) (gName 5)) <|
  tSeq (tAsg (tOp rModI (tOp rPowI (tVar 5) (tI' 5)) (tI' 4294967279)) (gName 5)) <|
  tRet (tOp rModI (tOp rDivI (tOp rModI (tOp rAddI (tOp rMulI (tOp rDivI (tVar 5) (tI' 64)) (tI' 69621)) (tVar 5)) (tI' 4294967231)) (tI' 8)) (tVar 1))
theorem atI_map {ns : List Int} {i : Int} {j : Nat} {z : Int} (h0 : i = (j : Int)) (h : ns[j]? = some z) : atI (ns.map V.int) i = some (V.int z) := by
  subst h0
  have lt : j < ns.length := (List.getElem?_eq_some_iff.mp h).1
  unfold atI ixN
  rw [if_pos (by omega), if_pos (by simp; omega)]
  simp [h]
theorem pure_draw {K : PySem.W.Frag} {D : Ends} {H : Hp} {a p : Addr} {ns ns' : List Int} {k n r : Int} (h1 : H a = some (.lst [.ref p, .int k])) (h2 : H p = some (.lst (ns.map .int))) (hap : a ≠ p) (hn : 0 < n) (hn2 : n < 1073741824)
    (hd : drawStep ns k n = some (r, ns')) (hQ : D.rt (.int r) (upd (upd H a (.lst [.ref p, .int (k + 1)])) p (.lst (ns'.map .int)))) : tDraw K D [some (.ref a), some (.int n), none, none, none, none] H := by
  have a1 : ∀ {H : Hp} {j : Int}, H a = some (.lst [.ref p, .int j]) → SqL K H a [.ref p, .int j] := fun h => .of h
  unfold drawStep at hd
  dsimp only at hd
  cases hz : ns[((k + 1) % (ns.length : Int)).toNat]? with
  | none => rw [hz] at hd; cases hd
  | some z =>
    rw [hz] at hd
    dsimp only at hd
    have lt : ((k + 1) % (ns.length : Int)).toNat < ns.length := (List.getElem?_eq_some_iff.mp hz).1
    have lp : (0 : Int) < (ns.length : Int) := by omega
    have hi : (k + 1) % (ns.length : Int) = ((((k + 1) % (ns.length : Int)).toNat : Nat) : Int) := by
      have := Int.emod_nonneg (k + 1) (show (ns.length : Int) ≠ 0 by omega)
      omega
    have H1a : upd H a (.lst [.ref p, .int (k + 1)]) a = some (.lst [.ref p, .int (k + 1)]) := upd_same
    have H1p : upd H a (.lst [.ref p, .int (k + 1)]) p = some (.lst (ns.map .int)) := by rw [upd_ne (Ne.symm hap)]; exact h2
    refine ⟨_, rfl, a, _, 0, _, rfl, rfl, a1 h1, rfl, ?_⟩
    refine ⟨_, rfl, a, _, 1, _, rfl, rfl, a1 h1, rfl, k, 1, rfl, rfl, ?_⟩
    refine ⟨_, rfl, a, _, 1, 1, rfl, rfl, h1, rfl, ?_⟩
    refine ⟨_, rfl, a, _, 1, _, rfl, rfl, a1 H1a, rfl, ?_⟩
    refine ⟨_, rfl, p, _, rfl, .inl (.of H1p), ?_⟩
    refine ⟨k + 1, _, rfl, rfl, by rw [List.length_map]; exact lp, ?_⟩
    refine ⟨_, rfl, _, rfl, p, _, _, _, rfl, rfl, .of H1p, atI_map (by rw [List.length_map]; exact hi) hz, ?_⟩
    refine ⟨_, rfl, z, _, rfl, rfl, _, rfl, ?_⟩
    by_cases big : 1000000000000000000 ≤ z
    · rw [if_pos big] at hd
      rw [if_pos (decide_eq_true big)]
      cases hd
      refine ⟨_, rfl, _, rfl, z, n, rfl, rfl, ⟨hn, hn2⟩, ?_⟩
      refine ⟨_, rfl, _, rfl, p, _, _, ((k + 1) % (ns.length : Int)).toNat, rfl, rfl, H1p, ?_, ?_⟩
      · rw [List.length_map]
        unfold ixN
        rw [if_pos (by omega), if_pos (by omega)]
      · refine ⟨_, rfl, _, rfl, z, n, rfl, rfl, hn, ?_⟩
        have e1 : (ns.map V.int).set ((k + 1) % (ns.length : Int)).toNat (.int (z / n)) = (ns.set ((k + 1) % (ns.length : Int)).toNat (z / n)).map V.int := by rw [List.map_set]
        rw [e1]
        exact hQ
    · rw [if_neg big] at hd
      rw [if_neg (by simp; omega)]
      cases hd
      have e2 : upd (upd H a (.lst [.ref p, .int (k + 1)])) p (.lst (ns.map .int)) = upd H a (.lst [.ref p, .int (k + 1)]) := by
        funext b
        by_cases hb : b = p
        · subst hb; rw [upd_same, H1p]
        · rw [upd_ne hb]
      rw [e2] at hQ
      refine ⟨_, rfl, _, rfl, a, _, 1, _, rfl, rfl, a1 H1a, rfl, 104729, k + 1, rfl, rfl, .inl (by omega), z, _, rfl, rfl, ?_⟩
      refine ⟨_, _, rfl, rfl, by omega, ?_⟩
      show gName 5 (V.int ((z + 104729 * (k + 1)) % 4294967291)) _ _ _
      generalize hm : (z + 104729 * (k + 1)) % 4294967291 = m at hQ ⊢
      have m0 : 0 ≤ m := by rw [← hm]; exact Int.emod_nonneg _ (by omega)
      have m1 : m < 4294967291 := by rw [← hm]; exact Int.emod_lt_of_pos _ (by omega)
      refine ⟨_, rfl, m, 5, rfl, rfl, ⟨by omega, by omega, by omega⟩, _, _, rfl, rfl, by omega, ?_⟩
      show gName 5 (V.int (m ^ 5 % 4294967279)) _ _ _
      generalize hm2 : m ^ 5 % 4294967279 = m2 at hQ ⊢
      refine ⟨_, rfl, m2, 64, rfl, rfl, ⟨by omega, by omega⟩, _, _, rfl, rfl, .inr (by omega), ?_⟩
      refine ⟨_, rfl, _, _, rfl, rfl, ?_⟩
      refine ⟨_, _, rfl, rfl, by omega, _, _, rfl, rfl, ⟨by omega, by omega⟩, ?_⟩
      exact ⟨_, rfl, _, n, rfl, rfl, hn, hQ⟩
/-- _law_draw, from its walk -/
theorem Fn.draw {c : Cfg} {mg : Str → Option Value} {base : Heap} {x : Str} {ps N : List Str} {pr : Arguments} {body : List Stmt} {sc : Scope} {k : Nat} {f : Addr} {fd : FuncData} {dvs : List V} {kws : List (Str × V)} (F : FunD c.K x x pr body sc dvs kws f fd) (S : FnScope N ps sc)
    (hm : mg x = some (.ref f)) (hB : Binds c.K fd ps []) (bl : BL mg) (hN : N.length = 6) (hps : ps.length = 2)
    (hb : ∀ (cdv : Value) (A : Around) (outer : List Env) (s : Shared) (H : Hp) (E : XK), Ctx (CxW c mg base N x sc f cdv A outer s H E) c (WX0 E) k → PSs (CxW c mg base N x sc f cdv A outer s H E) body (tDraw c.K)) : Fn c mg base x ps (k + 1) drawM := by
  refine ⟨f, fd, hm, F.kp, hB, F.ok S (fun vs H Q E h => h.1) fun cdv A outer s H vs Q E hr h => ⟨tDraw c.K, hb cdv A outer s H E ⟨rfl, rfl, rfl, rfl, S.nd, hr, takes_of rfl rfl rfl rfl, bl⟩, ?_⟩⟩
  obtain ⟨hl, L, T, G, ds, sub, st, nd, lf, r, p⟩ := h
  rcases hF : drawM ds T with ⟨d, T'⟩ | ⟨j, T'⟩ | _
  · rw [hF] at p
    obtain ⟨i, n, ns, j, y, ns', rfl, hT, z, hd, rfl, rfl⟩ := drawM_ok hF
    cases r with
    | cons r1 r2 =>
      cases r2 with
      | cons r3 r4 =>
        cases r4
        cases r3
        cases r1 with
        | @cell a _ t hL =>
          obtain ⟨q, hL2, a2, n2, e1, h1, h2⟩ := st.at_ hT
          rw [hL] at hL2
          cases hL2
          cases e1
          have e0 : L2.start N [V.ref a, V.int n] = [some (.ref a), some (.int n), none, none, none, none] := by unfold L2.start; rw [hN]; rfl
          rw [e0]
          refine pure_draw h1 h2 (fun z => ?_) z.1 z.2 hd (p (.int y) L G _ (town_after (ns := ns) (k := j) sub st nd lf hL) (.int y))
          rw [z] at h1; rw [h1] at h2
          cases ns with
          | nil => cases h2
          | cons _ _ => injection h2 with h2; injection h2 with h2; injection h2 with h3 h4; cases h3
  · exact absurd hF (drawM_noexn ds T j T')
  · rw [hF] at p; exact p.elim
end WW
set_option maxHeartbeats 1000000
namespace WW
open PySem PySem.Spec PyProof.Rows L2
def first (ns : List Int) : List Int := if ns = [] then [0] else ns
def tTown (K : PySem.W.Frag) : TS := tRet (tLst (tCons (tIf (tTest (tOp (rNeD K) (tVar 0) (tLst tNil)))
  (tCB (fun xs H Q => ∃ p ys, xs = [.ref p] ∧ (SqL K H p ys ∨ SqT K H p ys) ∧ ∀ l, H l = none → Q (.ref l) (upd H l (.lst ys))) (tCons (tVar 0) tNil)) (tLst (tCons (tI' 0) tNil))) (tCons (tI' 0) tNil)))
def spTown (c : Cfg) : Sp := fun vs H Q _ => ∃ (a : Addr) (ns : List Int), vs = [.ref a] ∧ SqL c.K H a (ns.map V.int) ∧
  ∀ p q H', p ≠ q → H p = none → H q = none → H' p = some (.lst [.ref q, .int 0]) → H' q = some (.lst ((first ns).map V.int)) → (∀ b o, H b = some o → H' b = some o) → Q (.ref p) H'
theorem dp_ints {K : PySem.W.Frag} {H : Hp} : ∀ ns : List Int, DpAll K H (ns.map V.int) (ns.map PyData.int)
  | [] => .nil
  | n :: ns => .cons (.int n) (dp_ints ns)
theorem sqL_upd {K : PySem.W.Frag} {H : Hp} {a p : Addr} {o : HO} {xs : List V} (h : SqL K H a xs) (hp : H p = none) : SqL K (upd H p o) a xs := by
  rcases h with (h | ⟨ob, h⟩) | h
  · exact .inl (.inl (by rw [upd_ne (ne_of_none h hp)]; exact h))
  · exact .inl (.inr ⟨ob, by rw [upd_ne (ne_of_none h hp)]; exact h⟩)
  · exact .inr h
theorem ints_shaped : ∀ ns : List Int, PyData.canLayAll0 (ns.map PyData.int) = true ∧ PyData.depthAll (ns.map PyData.int) = 0
  | [] => ⟨rfl, rfl⟩
  | n :: ns => by
    obtain ⟨h1, h2⟩ := ints_shaped ns
    exact ⟨by simp only [List.map_cons, PyData.canLayAll0, PyData.canLay0, h1]; rfl, by simp only [List.map_cons, PyData.depthAll, PyData.depth, h2]; rfl⟩
theorem shaped_ints (ns : List Int) : SeqAt.shaped (.list (ns.map PyData.int)) = true := by
  obtain ⟨h1, h2⟩ := ints_shaped ns
  unfold SeqAt.shaped
  simp only [PyData.canLay0, PyData.depth, h1, h2]
  rfl
theorem pure_town {c : Cfg} {D : Ends} {H : Hp} {a : Addr} {ns : List Int} (hS : SqL c.K H a (ns.map V.int))
    (hQ : ∀ p q H', p ≠ q → H p = none → H q = none → H' p = some (.lst [.ref q, .int 0]) → H' q = some (.lst ((first ns).map V.int)) → (∀ b o, H b = some o → H' b = some o) → D.rt (.ref p) H') : tTown c.K D [some (.ref a)] H := by
  refine ⟨_, rfl, by decide, fun e he => ?_⟩
  refine ⟨.list (ns.map PyData.int), .list [], .lst (sqL_upd hS he) (dp_ints ns), .lst (.of upd_same) .nil, shaped_ints ns, rfl, ?_⟩
  have kp1 : ∀ b o, H b = some o → upd H e (.lst []) b = some o := fun b o h => by rw [upd_ne (ne_of_none h he)]; exact h
  cases ns with
  | nil =>
    refine ⟨false, by simp [PyData.eqv, PyData.eqvAll], ?_⟩
    dsimp only
    rw [if_neg (by simp)]
    refine ⟨by decide, fun q hq => ⟨show 2 ≤ sizeLine by decide, fun p hp => ?_⟩⟩
    have hq0 : H q = none := by
      cases z : H q with
      | none => rfl
      | some o => rw [kp1 q o z] at hq; cases hq
    have hp1 : upd H e (.lst []) p = none ∧ p ≠ q := by
      by_cases z : p = q
      · rw [z, upd_same] at hp; cases hp
      · rw [upd_ne z] at hp; exact ⟨hp, z⟩
    have hp0 : H p = none := by
      cases z : H p with
      | none => rfl
      | some o => rw [kp1 p o z] at hp1; cases hp1.1
    refine hQ p q _ hp1.2 hp0 hq0 upd_same (by rw [upd_ne (Ne.symm hp1.2), upd_same]; rfl) fun b o h => ?_
    rw [upd_ne (ne_of_none h hp0), upd_ne (ne_of_none h hq0)]
    exact kp1 b o h
  | cons n ns =>
    refine ⟨true, by simp [PyData.eqv, PyData.eqvAll], ?_⟩
    dsimp only
    rw [if_pos rfl]
    refine ⟨_, rfl, a, _, rfl, .inl (sqL_upd hS he), fun q hq => ⟨show 2 ≤ sizeLine by decide, fun p hp => ?_⟩⟩
    have hq0 : H q = none := by
      cases z : H q with
      | none => rfl
      | some o => rw [kp1 q o z] at hq; cases hq
    have hp1 : upd H e (.lst []) p = none ∧ p ≠ q := by
      by_cases z : p = q
      · rw [z, upd_same] at hp; cases hp
      · rw [upd_ne z] at hp; exact ⟨hp, z⟩
    have hp0 : H p = none := by
      cases z : H p with
      | none => rfl
      | some o => rw [kp1 p o z] at hp1; cases hp1.1
    refine hQ p q _ hp1.2 hp0 hq0 upd_same (by rw [upd_ne (Ne.symm hp1.2), upd_same]; rfl) fun b o h => ?_
    rw [upd_ne (ne_of_none h hp0), upd_ne (ne_of_none h hq0)]
    exact kp1 b o h
/-- like Fn, of any promise -/
structure FnS (c : Cfg) (mg : Str → Option Value) (base : Heap) (x : Str) (ps : List Str) (k : Nat) (sp : Sp) : Prop where
  ex : ∃ f fd, mg x = some (.ref f) ∧ PySem.W.keepIn c.K (.ref f) = true ∧ Binds c.K fd ps [] ∧ FnOk c.P c.w c.K mg base (L2.CX c.P c.w) k f fd ps sp
theorem FnS.town {c : Cfg} {mg : Str → Option Value} {base : Heap} {x : Str} {ps N : List Str} {pr : Arguments} {body : List Stmt} {sc : Scope} {k : Nat} {f : Addr} {fd : FuncData} {dvs : List V} {kws : List (Str × V)} (F : FunD c.K x x pr body sc dvs kws f fd) (S : FnScope N ps sc)
    (hm : mg x = some (.ref f)) (hB : Binds c.K fd ps []) (bl : BL mg) (hN : N.length = 1) (hps : ps.length = 1)
    (hb : ∀ (cdv : Value) (A : Around) (outer : List Env) (s : Shared) (H : Hp) (E : XK), Ctx (CxW c mg base N x sc f cdv A outer s H E) c (WX0 E) k → PSs (CxW c mg base N x sc f cdv A outer s H E) body (tTown c.K)) : FnS c mg base x ps (k + 1) (spTown c) := by
  refine ⟨f, fd, hm, F.kp, hB, F.ok S (fun vs H Q E h => ?_) fun cdv A outer s H vs Q E hr h => ⟨tTown c.K, hb cdv A outer s H E ⟨rfl, rfl, rfl, rfl, S.nd, hr, takes_of rfl rfl rfl rfl, bl⟩, ?_⟩⟩
  · obtain ⟨a, ns, rfl, _⟩ := h
    rw [hps]; rfl
  · obtain ⟨a, ns, rfl, hS, hQ⟩ := h
    have e0 : L2.start N [V.ref a] = [some (.ref a)] := by unfold L2.start; rw [hN]; rfl
    rw [e0]
    exact pure_town hS hQ
/-- the law, as its mirror runs on the numbers ns -/
def runL (n : Nat) (f : Sx) (ns : List Int) : Rs D := (f ((List.replicate n none).set 1 (some (.d (.cell 0)))) >>= endM) [.town (first ns) 0]
def spLaw (c : Cfg) : Sp := fun vs H Q _ => ∃ (a : Addr) (ns : List Int), vs = [.ref a] ∧ SqL c.K H a (ns.map V.int) ∧ ns.length ≤ 63 ∧ ∀ H', Q (.bl true) H'
section
variable {X : Cx} {c : Cfg} {W : WX} {k j : Nat} {p pos pos' pos3 : Pos} {x y z : Str} {ps : List Str} {f : Sx} {sts : List Stmt}
def tLaw (c : Cfg) (W : WX) (f : Sx) : TS := tSeq (tAsg (tCallS (spTown c) (WE W) (tCons (tVar 0) tNil)) (gName 1)) (tS c W f)
theorem pss_law (h : Ctx X c W k) (C : FnS c X.mg X.base x ps j (spTown c)) (hj : j ≤ k) (hr : PSs X sts (tS c W f)) {pe : Pos} (h0 : X.N[0]? = some y := by rfl) (h1 : X.N[1]? = some z := by rfl) (hg : Gl X x := by rfl) (hdb : (x == ("__debug__" : Str)) = false := by decide)
    (hv : Vis X.env.scope y := by first | exact Or.inl rfl | exact Or.inr (Or.inl rfl) | exact Or.inr (Or.inr rfl)) (hd : (y == ("__debug__" : Str)) = false := by decide) (hcd : (y == ("__classdict__" : Str)) = false := by decide)
    (hx : Loc X.env.scope z := by first | exact Or.inl rfl | exact Or.inr rfl) (hf : X.fn z = true ∨ X.env.scope.names.lookup z = some .local := by first | exact .inl rfl | exact .inr rfl) :
    PSs X (.Assign [.Name z pos'] (.Call (.Name x p) [.Name y pe] [] pos) pos3 :: sts) (tLaw c W f) := by
  obtain ⟨f0, fd, e1, e2, e3, e4⟩ := C.ex
  have e4' : FnOk X.prog X.w X.K X.mg X.base (L2.CX X.prog X.w) j f0 fd ps (spTown c) := by rw [h.hP, h.hw, h.hK]; exact e4
  have e3' : Binds X.K fd ps [] := by rw [h.hK]; exact e3
  have e2' : PySem.W.keepIn X.K (.ref f0) = true := by rw [h.hK]; exact e2
  exact pss_cons (ps_set h.nd h1 hx (pe_callS e4' (h.room.mono hj) hg e1 e2' e3' (fun σ => passAt h.tk σ) (pa_cons (pe_var h0 hv hd hcd) pa_nil) hdb) rfl hf) hr
end
theorem pure_law {c : Cfg} {W : WX} {f : Sx} {n : Nat} {N : List Str} {H : Hp} {vs : List V} {Q : VK} {E : XK} (hN : N.length = n) (h2 : 2 ≤ n) (hf : ∀ ns : List Int, ns.length ≤ 63 → ∃ T', runL n f ns = .ok (.bl true) T') (h : spLaw c vs H Q E) : tLaw c W f { nx := fun _ H' => Q .non H', rt := Q } (L2.start N vs) H := by
  obtain ⟨a, ns, rfl, hS, hl, hQ⟩ := h
  have e0 : (L2.start N [V.ref a])[0]? = some (some (.ref a)) := rfl
  refine ⟨_, e0, a, ns, rfl, hS, fun p q H' hpq hp hq h1 h2' hk => ?_⟩
  obtain ⟨T', hr⟩ := hf ns hl
  have ln : (L2.start N [V.ref a]).length = n := by unfold L2.start; simp; omega
  refine ⟨⟨[[p, q]], H', fun _ => none, [], []⟩, [[p, q]], [.town (first ns) 0], fun _ => none, (List.replicate n none).set 1 (some (.d (.cell 0))), ?_, ?_⟩
  · refine ⟨fun b o e => (by cases e), fun b o e _ => ⟨fun _ => e, fun m => by cases m⟩, .cons ⟨p, q, rfl, h1, h2'⟩ .nil, by simp [hpq], fun _ _ => rfl, fun b hb => .inl hb, fun _ _ => rfl, fun b hb => .inl hb, fun b hb => ?_, fun b hb => ?_, by rw [List.length_set, List.length_set, List.length_replicate, ln], fun i sv hi => ?_, fun y hy => absurd hy (by simp), fun i j y z hij hi hj oy => ?_⟩
    · have hb' : b = p ∨ b = q := by simpa using hb
      rcases hb' with z | z
      · rw [z, h1]; simp
      · rw [z, h2']; simp
    · have hb' : b = p ∨ b = q := by simpa using hb
      rcases hb' with z | z
      · rw [z]; show H' p ≠ none; rw [h1]; simp
      · rw [z]; show H' q ≠ none; rw [h2']; simp
    · rcases get_set hi with ⟨rfl, e1⟩ | ⟨hne, e1⟩
      · cases e1
        exact ⟨.ref p, by rw [List.getElem?_set_self (by omega)], .cell (r := [q]) rfl⟩
      · rw [List.getElem?_replicate] at e1
        split at e1 <;> cases e1
    · rcases get_set hi with ⟨rfl, e1⟩ | ⟨hne, e1⟩
      · cases e1; exact oy.elim
      · rw [List.getElem?_replicate] at e1
        split at e1 <;> cases e1
  · unfold runL at hr
    obtain ⟨fl, T1, k1, k2⟩ := bind_ok hr
    rw [k1]
    cases fl with
    | nx ρ' => cases k2
    | rt d =>
      cases k2
      intro v L' G' H2 σ' ρ' _ _ _ rv
      cases rv
      exact hQ H2
    | bk ρ' => cases k2
    | ct ρ' => cases k2
abbrev CxL (c : Cfg) (mg : Str → Option Value) (base : Heap) (N : List Str) (x : Str) (sc : Scope) (f : Addr) (cdv : Value) (A : Around) (outer : List Env) (s : Shared) (H : Hp) (E : XK) : Cx := cxOf CX0 c.P c.w c.K mg base N x sc f cdv A outer s H E
/-- the law's def -/
theorem law_fn {c : Cfg} {mg : Str → Option Value} {base : Heap} {x y : Str} {N : List Str} {pr : Arguments} {body : List Stmt} {sc : Scope} {k n : Nat} {fb : Sx} {f : Addr} {fd : FuncData} {dvs : List V} {kws : List (Str × V)} (F : FunD c.K x x pr body sc dvs kws f fd) (S : FnScope N [y] sc)
    (bl : BL mg) (hN : N.length = n) (h2 : 2 ≤ n) (hf : ∀ ns : List Int, ns.length ≤ 63 → ∃ T', runL n fb ns = .ok (.bl true) T')
    (hb : ∀ (cdv : Value) (A : Around) (outer : List Env) (s : Shared) (H : Hp) (E : XK), Ctx (CxL c mg base N x sc f cdv A outer s H E) c W0 k → PassesOwn (model c.P c.w) (CxL c mg base N x sc f cdv A outer s H E).A (CxL c mg base N x sc f cdv A outer s H E).env (CxL c mg base N x sc f cdv A outer s H E).xe →
      PSs (CxL c mg base N x sc f cdv A outer s H E) body (tLaw c W0 fb)) : FnOk c.P c.w c.K mg base CX0 (k + 1) f fd [y] (spLaw c) := by
  refine F.ok S (fun vs H Q E h => ?_) fun cdv A outer s H vs Q E hr h => ⟨tLaw c W0 fb, hb cdv A outer s H E ⟨rfl, rfl, rfl, rfl, S.nd, hr, takes0, bl⟩ (passes_of rfl), pure_law hN h2 hf h⟩
  obtain ⟨a, ns, rfl, _⟩ := h
  rfl
end WW
set_option maxHeartbeats 1000000
namespace WW
open PySem PySem.Spec PyProof.Rows L2
/-- a block's names, by evaluation -/
def blkB (N : List Str) (ns : List (Str × NameKind)) (scope : Scope) (own : List (Str × Nat)) : Bool :=
  decide (scope.kind = .function) && ((scope.names.all fun y => decide (scope.names.lookup y.1 = some y.2)) && ((own.all fun p => decide (N[p.2]? = some p.1)) &&
    ((scope.names.all fun y => !decide (y.2 = .free) || (decide (ns.lookup y.1 = some .cell) || decide (ns.lookup y.1 = some .free))) &&
      scope.names.all fun y => !(decide (y.2 = .local) || decide (y.2 = .cell)) || (decide (y.1 ∈ own.map (·.1)) || !decide (y.1 ∈ N)))))
theorem blk_of {N : List Str} {sc scope : Scope} {own : List (Str × Nat)} (h : blkB N sc.names scope own = true) : BlkOk N sc scope own := by
  unfold blkB at h
  simp only [Bool.and_eq_true, List.all_eq_true, decide_eq_true_eq, Bool.or_eq_true, Bool.not_eq_true', decide_eq_false_iff_not] at h
  obtain ⟨h1, h2, h3, h4, h5⟩ := h
  refine ⟨h1, h2, h3, fun y hy e => ?_, fun y hy e => ?_⟩
  · rcases h4 y hy with z | z
    · exact absurd e z
    · exact z
  · rcases h5 y hy with z | z
    · exfalso
      simp only [Bool.or_eq_false_iff, decide_eq_false_iff_not] at z
      rcases e with e | e
      · exact z.1 e
      · exact z.2 e
    · exact z
/-- a, b = x, y, the names' stores swapped -/
def sPar (is : List Nat) (as : List Ex) : Sx := fun ρ => dArgs as ρ >>= fun ds => M.ret (.nx (setsE is ds ρ))
section
variable {X : Cx} {c : Cfg} {W : WX} {k : Nat} {a b d : Expr} {fa fb fd : Ex} {x y z : Str} {pos px py pz pt pt2 : Pos} {kt k2 : Nat}
theorem par_end {as : List Ex} {is : List Nat} {D : Ends} {σ : L2.St} {H : Hp} (q : tS c W (sPar is as) D σ H) : tL c W (dArgs as) σ H fun vs H1 => ∃ e L T G ρ ds, Sta c e L T G H1 σ ρ ∧ RepL c L G vs ds ∧ ds.length = as.length ∧ ∀ σ', Sta c e L T G H1 σ' (setsE is ds ρ) → D.nx σ' H1 := by
  obtain ⟨e, L, T, G, ρ, S, p⟩ := q
  refine ⟨e, L, T, G, ρ, S, ?_⟩
  unfold sPar at p
  cases hr : dArgs as ρ T with
  | bad => rw [bnd_bad hr] at p; exact p
  | exn k T' => rw [bnd_exn hr] at p; exact fun L' G' H' h1 h2 S' => p L' G' H' σ ρ h1 h2 S'
  | ok ds T' =>
    rw [bnd_ok hr] at p
    exact fun vs L' G' H' h1 h2 S' r => ⟨e, L', T', G', ρ, ds, S', r, dArgs_length as ρ T ds T' hr, fun σ' S2 => p L' G' H' σ' h1 h2 S2⟩
theorem ds_par (i j : Nat) (h : Ctx X c W k) (ha : PE X a (tD c W fa)) (hb : PE X b (tD c W fb)) (hi : X.N[i]? = some x := by rfl) (hj : X.N[j]? = some y := by rfl) (hij : i ≠ j := by decide)
    (hx : X.env.scope.names.lookup x = some .local := by rfl) (hy : X.env.scope.names.lookup y = some .local := by rfl) (ns : NS a := by intro _ _; rfl) (ns2 : NS b := by intro _ _; rfl)
    (hw : swappedStores [.Tuple [.Name x px, .Name y py] kt pt] (.Tuple [a, b] k2 pt2) X.env = pure (some [x, y]) := by rfl)
    (hs : swapsWithSole [.Tuple [.Name x px, .Name y py] kt pt] (.Tuple [a, b] k2 pt2) pos.line X.env = pure false := by rfl) :
    PS X (.Assign [.Tuple [.Name x px, .Name y py] kt pt] (.Tuple [a, b] k2 pt2) pos) (tS c W (sPar [i, j] [fa, fb])) := by
  refine (ps_par h.calm h.nd hi hj hij hx hy (da_cons ha (da_cons hb da_nil (ns2 _ _)) (ns _ _)) hw hs).imp fun D σ H q => (par_end q).mono fun vs H1 q1 => ?_
  obtain ⟨e, L, T, G, ρ, ds, S, r, hl, p⟩ := q1
  obtain ⟨d1, d2, rfl⟩ : ∃ d1 d2, ds = [d1, d2] := match ds, hl with | [d1, d2], _ => ⟨d1, d2, rfl⟩
  cases r with
  | cons r1 r =>
    cases r with
    | cons r2 r =>
      cases r
      exact ⟨_, _, rfl, p _ (sets_ok (is := [i, j]) S (.cons r1 (.cons r2 .nil)))⟩
theorem ds_par3 (i j l : Nat) (h : Ctx X c W k) (ha : PE X a (tD c W fa)) (hb : PE X b (tD c W fb)) (hd : PE X d (tD c W fd)) (hi : X.N[i]? = some x := by rfl) (hj : X.N[j]? = some y := by rfl) (hl : X.N[l]? = some z := by rfl)
    (hij : i ≠ j := by decide) (hil : i ≠ l := by decide) (hjl : j ≠ l := by decide)
    (hx : X.env.scope.names.lookup x = some .local := by rfl) (hy : X.env.scope.names.lookup y = some .local := by rfl) (hz : X.env.scope.names.lookup z = some .local := by rfl) (ns : NS a := by intro _ _; rfl) (ns2 : NS b := by intro _ _; rfl) (ns3 : NS d := by intro _ _; rfl)
    (hw : swappedStores [.Tuple [.Name x px, .Name y py, .Name z pz] kt pt] (.Tuple [a, b, d] k2 pt2) X.env = pure (some [x, y, z]) := by rfl)
    (hs : swapsWithSole [.Tuple [.Name x px, .Name y py, .Name z pz] kt pt] (.Tuple [a, b, d] k2 pt2) pos.line X.env = pure false := by rfl) :
    PS X (.Assign [.Tuple [.Name x px, .Name y py, .Name z pz] kt pt] (.Tuple [a, b, d] k2 pt2) pos) (tS c W (sPar [i, j, l] [fa, fb, fd])) := by
  refine (ps_par3 h.calm h.nd hi hj hl hij hil hjl hx hy hz (da_cons ha (da_cons hb (da_cons hd da_nil (ns3 _ _)) (ns2 _ _)) (ns _ _)) hw hs).imp fun D σ H q => (par_end q).mono fun vs H1 q1 => ?_
  obtain ⟨e, L, T, G, ρ, ds, S, r, hl, p⟩ := q1
  obtain ⟨d1, d2, d3, rfl⟩ : ∃ d1 d2 d3, ds = [d1, d2, d3] := match ds, hl with | [d1, d2, d3], _ => ⟨d1, d2, d3, rfl⟩
  cases r with
  | cons r1 r =>
    cases r with
    | cons r2 r =>
      cases r with
      | cons r3 r =>
        cases r
        exact ⟨_, _, _, rfl, p _ (sets_ok (is := [i, j, l]) S (.cons r1 (.cons r2 (.cons r3 .nil))))⟩
end
end WW
set_option maxHeartbeats 4000000
namespace WP
open PySem PySem.Spec L2 WW
def g_WORDS : List D := [.str "at", .str "not", .str "saw", .str "missed", .str "alone", .str "heard"]
def b_is_whole : Sx :=
 (sRet (dAnd (d1 (isiD "int") (dVar 0)) (dAnd (dNot (d1 (isiD "bool") (dVar 0))) (dChain leM leM (dVar 1) (dVar 0) (dVar 2)))))
def F_is_whole : List D → M D := runB 3 b_is_whole
def b_are_pairs : Sx :=
 (sSeq (sIf (tOrX (tNotX (tVal (d1 (isiD "tuple") (dVar 0)))) (tNotX (tVal (dCall (F1 allM) [(dOwn (oLc (iSeq (dVar 0)) (bName 4) tAll (dAnd (d1 (isiD "tuple") (dVar 4)) (d2 eqM (dCall (F1 lenM) [(dVar 4)]) (dC (.int 2)))) [4]))]))))
 (sRet (dC (.bl false)))
 sNil)
 (sSeq (sIf (tNotX (tVal (dCall (F1 allM) [(dOwn (oLc (iSeq (dVar 0)) (bName 4) tAll (dAnd (dCall WP.F_is_whole [(d2 ixM (dVar 4) (dC (.int 0))), (dC (.int 0)), (d2 subM (dVar 1) (dC (.int 1)))]) (dCall WP.F_is_whole [(d2 ixM (dVar 4) (dC (.int 1))), (dC (.int 0)), (d2 subM (dVar 2) (dC (.int 1)))])) [4]))])))
 (sRet (dC (.bl false)))
 sNil)
 (sRet (dCall (F1 allM) [(dOwn (oLc (iCall rng1M [(d2 subM (dCall (F1 lenM) [(dVar 0)]) (dC (.int 1)))]) (bName 3) tAll (d2 ltM (d2 ixM (dVar 0) (dVar 3)) (d2 ixM (dVar 0) (d2 addM (dVar 3) (dC (.int 1))))) [3]))]))))
def F_are_pairs : List D → M D := runB 5 b_are_pairs
def b_is_house : Sx :=
 (sSeq (sIf (tOrX (tNotX (tVal (d1 (isiD "tuple") (dVar 0)))) (tOrX (tVal (d2 neM (dCall (F1 lenM) [(dVar 0)]) (dC (.int 5)))) (tNotX (tVal (dCall WP.F_is_whole [(d2 ixM (dVar 0) (dC (.int 0))), (dC (.int 1)), (dC (.int 6))])))))
 (sRet (dC (.bl false)))
 sNil)
 (sSeq (sUnp [1, 2, 3, 4, 5] (dVar 0))
 (sSeq (sIf (tOrX (tNotX (tVal (dCall WP.F_are_pairs [(dVar 2), (dVar 1), (dVar 1)]))) (tVal (dCall (F1 anyM) [(dOwn (oLc (iSeq (dVar 2)) (bTup [6, 7]) tAll (d2 geM (dVar 6) (dVar 7)) [6, 7]))])))
 (sRet (dC (.bl false)))
 sNil)
 (sSeq (sIf (tNotX (tVal (dCall WP.F_is_whole [(dVar 3), (dC (.int 0)), (dC (.int 12))])))
 (sRet (dC (.bl false)))
 sNil)
 (sRet (dAnd (dCall WP.F_are_pairs [(dVar 4), (d2 addM (dVar 3) (dC (.int 1))), (dCall (F1 lenM) [(dVar 2)])]) (dCall WP.F_are_pairs [(dVar 5), (d2 addM (dVar 3) (dC (.int 1))), (dVar 1)])))))))
def F_is_house : List D → M D := runB 8 b_is_house
def b_look_house : Sx :=
 (sIf (tOrX (tNotX (tVal (dCall WP.F_is_house [(dVar 0)]))) (tNotX (tVal (dCall WP.F_is_whole [(dVar 1), (dC (.int 1)), (dC (.int 4))]))))
 (sRaise 1)
 sNil)
def F_look_house : List D → M D := runB 2 b_look_house
def b_look_beat : Sx :=
 (sIf (tNotX (tVal (dCall WP.F_is_whole [(dVar 1), (dC (.int 0)), (d2 ixM (dVar 0) (dC (.int 2)))])))
 (sRaise 3)
 sNil)
def F_look_beat : List D → M D := runB 2 b_look_beat
def b_look_room : Sx :=
 (sIf (tNotX (tVal (dCall WP.F_is_whole [(dVar 1), (dC (.int 0)), (d2 subM (d2 ixM (dVar 0) (dC (.int 0))) (dC (.int 1)))])))
 (sRaise 4)
 sNil)
def F_look_room : List D → M D := runB 2 b_look_room
def b_open_doors : Sx :=
 (sRet (dOwn (oLc (iCall enumM [(d2 ixM (dVar 0) (dC (.int 1)))]) (bTup [2, 3]) (tVal (d2 (inM true) (dTup [(dVar 1), (dVar 2)]) (d2 ixM (dVar 0) (dC (.int 3))))) (dVar 3) [2, 3])))
def F_open_doors : List D → M D := runB 4 b_open_doors
def b_beside : Sx :=
 (sSeq (sSetO 3 (oLst []))
 (sSeq (sFor (iSeq (dCall WP.F_open_doors [(dVar 0), (dVar 2)])) (bTup [4, 5])
 (sIf (tVal (d2 (inM false) (dVar 1) (dTup [(dVar 4), (dVar 5)])))
 (sApp 3 (d2 subM (d2 addM (dVar 4) (dVar 5)) (dVar 1)))
 sNil))
 (sFrz 3 (sRet (dOwn (oCall (F1 sortM) [(dVar 3)]))))))
def F_beside : List D → M D := runB 6 b_beside
def b_next_rooms : Sx :=
 (sSeq (sExpr (dCall WP.F_look_house [(dVar 0), (dC (.int 1))]))
 (sSeq (sExpr (dCall WP.F_look_room [(dVar 0), (dVar 1)]))
 (sSeq (sExpr (dCall WP.F_look_beat [(dVar 0), (dVar 2)]))
 (sRet (dOwn (oCall (F1 sortM) [(d2 addM (dOwn (oLst [(dVar 1)])) (dCall WP.F_beside [(dVar 0), (dVar 1), (dVar 2)]))]))))))
def F_next_rooms : List D → M D := runB 3 b_next_rooms
def b_is_stand : Sx :=
 (sRet (dAnd (d1 (isiD "tuple") (dVar 2)) (dAnd (d2 eqM (dCall (F1 lenM) [(dVar 2)]) (dVar 1)) (dCall (F1 allM) [(dOwn (oLc (iSeq (dVar 2)) (bName 3) tAll (dCall WP.F_is_whole [(dVar 3), (dC (.int 0)), (d2 subM (d2 ixM (dVar 0) (dC (.int 0))) (dC (.int 1)))]) [3]))]))))
def F_is_stand : List D → M D := runB 4 b_is_stand
def b_is_claim : Sx :=
 (sSeq (sIf (tOrX (tNotX (tVal (d1 (isiD "tuple") (dVar 2)))) (tOrX (tVal (d2 neM (dCall (F1 lenM) [(dVar 2)]) (dC (.int 4)))) (tOrX (tNotX (tVal (d1 (isiD "str") (d2 ixM (dVar 2) (dC (.int 0)))))) (tVal (d2 (inM true) (d2 ixM (dVar 2) (dC (.int 0))) (dC (.tup WP.g_WORDS)))))))
 (sRet (dC (.bl false)))
 sNil)
 (sSeq (sUnp [3, 4, 5, 6] (dVar 2))
 (sSeq (sIf (tOrX (tNotX (tVal (dCall WP.F_is_whole [(dVar 4), (dC (.int 0)), (d2 subM (dVar 1) (dC (.int 1)))]))) (tNotX (tVal (dCall WP.F_is_whole [(dVar 5), (dC (.int 0)), (d2 ixM (dVar 0) (dC (.int 2)))]))))
 (sRet (dC (.bl false)))
 sNil)
 (sSeq (sIf (tVal (d2 (inM false) (dVar 3) (dTup [(dC (.str "at")), (dC (.str "not"))])))
 (sRet (dCall WP.F_is_whole [(dVar 6), (dC (.int 0)), (d2 subM (d2 ixM (dVar 0) (dC (.int 0))) (dC (.int 1)))]))
 sNil)
 (sSeq (sIf (tVal (d2 (inM false) (dVar 3) (dTup [(dC (.str "alone")), (dC (.str "heard"))])))
 (sRet (d2 (isM false) (dVar 6) (dC .non)))
 sNil)
 (sRet (dAnd (dCall WP.F_is_whole [(dVar 6), (dC (.int 0)), (d2 subM (dVar 1) (dC (.int 1)))]) (d2 neM (dVar 6) (dVar 4)))))))))
def F_is_claim : List D → M D := runB 7 b_is_claim
def b_holds : Sx :=
 (sSeq (sUnp [5, 6, 7, 8] (dVar 2))
 (sSeq (sSet 3 (d2 ixM (dVar 1) (dVar 6)))
 (sSeq (sIf (tVal (d2 eqM (dVar 5) (dC (.str "at"))))
 (sRet (d2 eqM (dVar 3) (dVar 8)))
 sNil)
 (sSeq (sIf (tVal (d2 eqM (dVar 5) (dC (.str "not"))))
 (sRet (d2 neM (dVar 3) (dVar 8)))
 sNil)
 (sSeq (sIf (tVal (d2 eqM (dVar 5) (dC (.str "saw"))))
 (sRet (dAnd (d2 eqM (d2 ixM (dVar 1) (dVar 8)) (dVar 3)) (d2 (inM true) (dTup [(dVar 7), (dVar 3)]) (d2 ixM (dVar 0) (dC (.int 4))))))
 sNil)
 (sSeq (sIf (tVal (d2 eqM (dVar 5) (dC (.str "missed"))))
 (sRet (d2 neM (d2 ixM (dVar 1) (dVar 8)) (dVar 3)))
 sNil)
 (sSeq (sSetO 4 (oLc (iCall rng1M [(dCall (F1 lenM) [(dVar 1)])]) (bName 9) (tVal (d2 neM (dVar 9) (dVar 6))) (d2 ixM (dVar 1) (dVar 9)) [9]))
 (sSeq (sIf (tVal (d2 eqM (dVar 5) (dC (.str "alone"))))
 (sFrz 4 (sRet (d2 (inM true) (dVar 3) (dVar 4))))
 sNil)
 (sFrz 4 (sRet (dCall (F1 anyM) [(dOwn (oLc (iSeq (dCall WP.F_beside [(dVar 0), (dVar 3), (dVar 7)])) (bName 9) tAll (d2 (inM false) (dVar 9) (dVar 4)) [9]))])))))))))))
def F_holds : List D → M D := runB 10 b_holds
def b_is_so : Sx :=
 (sSeq (sExpr (dCall WP.F_look_house [(dVar 0), (dVar 1)]))
 (sSeq (sIf (tNotX (tVal (dCall WP.F_is_stand [(dVar 0), (dVar 1), (dVar 2)])))
 (sRaise 4)
 sNil)
 (sSeq (sIf (tNotX (tVal (dCall WP.F_is_claim [(dVar 0), (dVar 1), (dVar 3)])))
 (sRaise 5)
 sNil)
 (sRet (dCall WP.F_holds [(dVar 0), (dVar 2), (dVar 3)])))))
def F_is_so : List D → M D := runB 4 b_is_so
def b__law_pick : Sx :=
 (sRet (d2 ixM (dVar 1) (dCall drawM [(dVar 0), (dCall (F1 lenM) [(dVar 1)])])))
def F__law_pick : List D → M D := runB 2 b__law_pick
def b__law_is : Sx :=
 (sRet (dAnd (d1 (isiD "bool") (dVar 0)) (d2 eqM (dVar 0) (dVar 1))))
def F__law_is : List D → M D := runB 2 b__law_is
def b__law_house : Sx :=
 (sSeq (sSetO 3 (oLc (iCall rng1M [(d2 subM (dVar 1) (dC (.int 1)))]) (bName 7) (tVal (d2 gtM (dCall drawM [(dVar 0), (dC (.int 8))]) (dC (.int 0)))) (dTup [(dVar 7), (d2 addM (dVar 7) (dC (.int 1)))]) [7]))
 (sSeq (sIf (tAndX (tVal (d2 gtM (dVar 1) (dC (.int 2)))) (tVal (d2 eqM (dCall drawM [(dVar 0), (dC (.int 3))]) (dC (.int 0)))))
 (sFrz 3 (sSet 3 (d2 addM (dOwn (oLst [(dTup [(dC (.int 0)), (d2 subM (dVar 1) (dC (.int 1)))])])) (dVar 3))))
 sNil)
 (sSeq (sFrz 3 (sSetO 3 (oCall (F1 sortM) [(dVar 3)])))
 (sSeq (sSet 4 (dOwn (oLst [])))
 (sSeq (sFor (iCall rng1M [(d2 addM (dVar 2) (dC (.int 1)))]) (bName 5)
 (sFrz 3 (sSet 4 (d2 addM (dVar 4) (dOwn (oLc (iCall rng1M [(dCall (F1 lenM) [(dVar 3)])]) (bName 7) (tVal (d2 eqM (dCall drawM [(dVar 0), (dC (.int 4))]) (dC (.int 0)))) (dTup [(dVar 5), (dVar 7)]) [7]))))))
 (sSeq (sSet 6 (dOwn (oLst [])))
 (sSeq (sFor (iCall rng1M [(d2 addM (dVar 2) (dC (.int 1)))]) (bName 5)
 (sSet 6 (d2 addM (dVar 6) (dOwn (oLc (iCall rng1M [(dVar 1)]) (bName 7) (tVal (d2 eqM (dCall drawM [(dVar 0), (dC (.int 6))]) (dC (.int 0)))) (dTup [(dVar 5), (dVar 7)]) [7])))))
 (sFrz 3 (sRet (dTup [(dVar 1), (dCall (F1 tupleM) [(dVar 3)]), (dVar 2), (dCall (F1 tupleM) [(dVar 4)]), (dCall (F1 tupleM) [(dVar 6)])]))))))))))
def F__law_house : List D → M D := runB 8 b__law_house
def b__law_side : Sx :=
 (sSeq (sSetO 3 (oLst []))
 (sSeq (sFor (iCall rng1M [(dCall (F1 lenM) [(d2 ixM (dVar 0) (dC (.int 1)))])]) (bName 4)
 (sSeq (sUnp [5, 6] (d2 ixM (d2 ixM (dVar 0) (dC (.int 1))) (dVar 4)))
 (sIf (tAndX (tVal (d2 (inM true) (dTup [(dVar 2), (dVar 4)]) (d2 ixM (dVar 0) (dC (.int 3))))) (tVal (d2 (inM false) (dVar 1) (dTup [(dVar 5), (dVar 6)]))))
 (sApp 3 (d2 subM (d2 addM (dVar 5) (dVar 6)) (dVar 1)))
 sNil)))
 (sFrz 3 (sRet (dVar 3)))))
def F__law_side : List D → M D := runB 7 b__law_side
def b__law_so : Sx :=
 (sSeq (sUnp [5, 6, 7, 8] (dVar 2))
 (sSeq (sSet 3 (d2 ixM (dVar 1) (dVar 6)))
 (sSeq (sIf (tVal (d2 (inM false) (dVar 5) (dTup [(dC (.str "at")), (dC (.str "not"))])))
 (sRet (d2 eqM (d2 eqM (dVar 3) (dVar 8)) (d2 eqM (dVar 5) (dC (.str "at")))))
 sNil)
 (sSeq (sIf (tVal (d2 eqM (dVar 5) (dC (.str "saw"))))
 (sRet (dAnd (d2 eqM (d2 ixM (dVar 1) (dVar 8)) (dVar 3)) (d2 (inM true) (dTup [(dVar 7), (dVar 3)]) (d2 ixM (dVar 0) (dC (.int 4))))))
 sNil)
 (sSeq (sIf (tVal (d2 eqM (dVar 5) (dC (.str "missed"))))
 (sRet (d2 neM (d2 ixM (dVar 1) (dVar 8)) (dVar 3)))
 sNil)
 (sSeq (sSetO 4 (oLc (iCall rng1M [(dCall (F1 lenM) [(dVar 1)])]) (bName 9) (tVal (d2 neM (dVar 9) (dVar 6))) (d2 ixM (dVar 1) (dVar 9)) [9]))
 (sSeq (sIf (tVal (d2 eqM (dVar 5) (dC (.str "alone"))))
 (sFrz 4 (sRet (d2 (inM true) (dVar 3) (dVar 4))))
 sNil)
 (sFrz 4 (sRet (d2 neM (dOwn (oLc (iSeq (dCall WP.F__law_side [(dVar 0), (dVar 3), (dVar 7)])) (bName 9) (tVal (d2 (inM false) (dVar 9) (dVar 4))) (dVar 9) [9])) (dOwn (oLst []))))))))))))
def F__law_so : List D → M D := runB 10 b__law_so
def b__law_claim : Sx :=
 (sSeq (sSet 3 (dCall WP.F__law_pick [(dVar 0), (dOwn (oLst [(dC (.str "at")), (dC (.str "not")), (dC (.str "saw")), (dC (.str "missed")), (dC (.str "alone")), (dC (.str "heard"))]))]))
 (sSeq (sUnp [4, 5] (dTup [(dCall drawM [(dVar 0), (dVar 2)]), (dCall drawM [(dVar 0), (d2 addM (d2 ixM (dVar 1) (dC (.int 2))) (dC (.int 1)))])]))
 (sSeq (sIf (tVal (d2 (inM false) (dVar 3) (dTup [(dC (.str "at")), (dC (.str "not"))])))
 (sRet (dTup [(dVar 3), (dVar 4), (dVar 5), (dCall drawM [(dVar 0), (d2 ixM (dVar 1) (dC (.int 0)))])]))
 sNil)
 (sSeq (sIf (tOrX (tVal (d2 (inM false) (dVar 3) (dTup [(dC (.str "alone")), (dC (.str "heard"))]))) (tVal (d2 eqM (dVar 2) (dC (.int 1)))))
 (sRet (dTup [(dIf (tVal (d2 eqM (dVar 2) (dC (.int 1)))) (dC (.str "alone")) (dVar 3)), (dVar 4), (dVar 5), (dC .non)]))
 sNil)
 (sRet (dTup [(dVar 3), (dVar 4), (dVar 5), (dCall WP.F__law_pick [(dVar 0), (dOwn (oLc (iCall rng1M [(dVar 2)]) (bName 6) (tVal (d2 neM (dVar 6) (dVar 4))) (dVar 6) [6]))])]))))))
def F__law_claim : List D → M D := runB 7 b__law_claim
def b_look_folk : Sx :=
 (sSeq (sIf (tOrX (tNotX (tVal (d1 (isiD "tuple") (dVar 1)))) (tNotX (tVal (dCall (F1 allM) [(dOwn (oLc (iSeq (dVar 1)) (bName 3) tAll (dCall WP.F_is_whole [(dVar 3), (dC (.int 0)), (d2 subM (dVar 0) (dC (.int 1)))]) [3]))]))))
 (sRaise 2)
 sNil)
 (sIf (tVal (dCall (F1 anyM) [(dOwn (oLc (iCall rng1M [(d2 subM (dCall (F1 lenM) [(dVar 1)]) (dC (.int 1)))]) (bName 2) tAll (d2 geM (d2 ixM (dVar 1) (dVar 2)) (d2 ixM (dVar 1) (d2 addM (dVar 2) (dC (.int 1))))) [2]))]))
 (sRaise 2)
 sNil))
def F_look_folk : List D → M D := runB 4 b_look_folk
def b_is_binding : Sx :=
 (sSeq (sIf (tOrX (tNotX (tVal (d1 (isiD "tuple") (dVar 2)))) (tOrX (tVal (d2 neM (dCall (F1 lenM) [(dVar 2)]) (dC (.int 2)))) (tNotX (tVal (dCall WP.F_is_claim [(dVar 0), (dVar 1), (d2 ixM (dVar 2) (dC (.int 1)))])))))
 (sRet (dC (.bl false)))
 sNil)
 (sRet (dOr (d2 (isM false) (d2 ixM (dVar 2) (dC (.int 0))) (dC .non)) (dCall WP.F_is_whole [(d2 ixM (dVar 2) (dC (.int 0))), (dC (.int 0)), (d2 subM (dVar 1) (dC (.int 1)))]))))
def F_is_binding : List D → M D := runB 3 b_is_binding
def b_book_fits : Sx :=
 (sSeq (sIf (tOrX (tNotX (tVal (d1 (isiD "list") (dVar 2)))) (tVal (d2 gtM (dCall (F1 lenM) [(dVar 2)]) (dC (.int 30)))))
 (sRet (dC (.bl false)))
 sNil)
 (sRet (dCall (F1 allM) [(dOwn (oLc (iSeq (dVar 2)) (bName 3) tAll (dCall WP.F_is_binding [(dVar 0), (dVar 1), (dVar 3)]) [3]))])))
def F_book_fits : List D → M D := runB 4 b_book_fits
def b_is_book : Sx :=
 (sSeq (sExpr (dCall WP.F_look_house [(dVar 0), (dVar 1)]))
 (sRet (dCall WP.F_book_fits [(dVar 0), (dVar 1), (dVar 2)])))
def F_is_book : List D → M D := runB 3 b_is_book
def b_look_book : Sx :=
 (sSeq (sExpr (dCall WP.F_look_house [(dVar 0), (dVar 1)]))
 (sIf (tNotX (tVal (dCall WP.F_book_fits [(dVar 0), (dVar 1), (dVar 2)])))
 (sRaise 5)
 sNil))
def F_look_book : List D → M D := runB 3 b_look_book
def b_look_case : Sx :=
 (sSeq (sExpr (dCall WP.F_look_book [(dVar 0), (dVar 1), (dVar 2)]))
 (sExpr (dCall WP.F_look_folk [(dVar 1), (dVar 3)])))
def F_look_case : List D → M D := runB 4 b_look_case
def b_claims_of : Sx :=
 (sRet (dOwn (oLc (iSeq (dVar 0)) (bTup [2, 3]) (tVal (d2 (inM true) (dVar 2) (dVar 1))) (dVar 3) [2, 3])))
def F_claims_of : List D → M D := runB 4 b_claims_of
def b__law_stands : Sx :=
 (sSeq (sSet 2 (dOwn (oLst [(dTup [])])))
 (sSeq (sFor (iCall rng1M [(dVar 1)]) (bName 3)
 (sSeq (sSet 4 (dOwn (oLst [])))
 (sSeq (sFor (iSeq (dVar 2)) (bName 5)
 (sSet 4 (d2 addM (dVar 4) (dOwn (oLc (iCall rng1M [(d2 ixM (dVar 0) (dC (.int 0)))]) (bName 6) tAll (d2 addM (dVar 5) (dTup [(dVar 6)])) [6])))))
 (sSet 2 (dVar 4)))))
 (sRet (dVar 2))))
def F__law_stands : List D → M D := runB 7 b__law_stands
def b__law_steps : Sx :=
 (sSeq (sSet 3 (dOwn (oLst [(dTup [])])))
 (sSeq (sFor (iSeq (dVar 1)) (bName 4)
 (sSeq (sSet 5 (dOwn (oLst [])))
 (sSeq (sFor (iSeq (dVar 3)) (bName 6)
 (sSet 5 (d2 addM (dVar 5) (dOwn (oLc (iSeq (dOwn (oCall (F1 sortM) [(d2 addM (dOwn (oLst [(dVar 4)])) (dCall WP.F__law_side [(dVar 0), (dVar 4), (dVar 2)]))]))) (bName 7) tAll (d2 addM (dVar 6) (dTup [(dVar 7)])) [7])))))
 (sSet 3 (dVar 5)))))
 (sRet (dVar 3))))
def F__law_steps : List D → M D := runB 8 b__law_steps
def b__law_binds : Sx :=
 (sRet (dOwn (oLc (iSeq (dVar 0)) (bTup [2, 3]) (tVal (d2 (inM true) (dVar 2) (dVar 1))) (dVar 3) [2, 3])))
def F__law_binds : List D → M D := runB 4 b__law_binds
def b__law_some : Sx :=
 (sRet (dCall WP.F__law_pick [(dVar 0), (dOwn (oLst [(dTup []), (dTup []), (dTup [(dCall drawM [(dVar 0), (dVar 1)])]), (dCall (F1 tupleM) [(dOwn (oLc (iCall rng1M [(dVar 1)]) (bName 2) (tVal (d2 eqM (dCall drawM [(dVar 0), (dC (.int 2))]) (dC (.int 0)))) (dVar 2) [2]))])]))]))
def F__law_some : List D → M D := runB 3 b__law_some
def b_broken_by : Sx :=
 (sRet (dOwn (oLc (iCall rng1M [(dCall (F1 lenM) [(dVar 2)])]) (bName 3) (tNotX (tVal (dCall WP.F_holds [(dVar 0), (d2 ixM (dVar 1) (d2 ixM (d2 ixM (d2 ixM (dVar 2) (dVar 3)) (dC (.int 1))) (dC (.int 2)))), (d2 ixM (d2 ixM (dVar 2) (dVar 3)) (dC (.int 1)))]))) (dVar 3) [3])))
def F_broken_by : List D → M D := runB 4 b_broken_by
def b_look_one : Sx :=
 (sIf (tNotX (tVal (dCall WP.F_is_whole [(dVar 1), (dC (.int 0)), (d2 subM (dVar 0) (dC (.int 1)))])))
 (sRaise 2)
 sNil)
def F_look_one : List D → M D := runB 2 b_look_one
def b_look_claims : Sx :=
 (sIf (tOrX (tNotX (tVal (d1 (isiD "list") (dVar 2)))) (tNotX (tVal (dCall (F1 allM) [(dOwn (oLc (iSeq (dVar 2)) (bName 3) tAll (dCall WP.F_is_claim [(dVar 0), (dVar 1), (dVar 3)]) [3]))]))))
 (sRaise 5)
 sNil)
def F_look_claims : List D → M D := runB 4 b_look_claims
def b__law_meetings : Sx :=
 (sSeq (sSetO 3 (oLc (iCall rng1M [(dCall (F1 lenM) [(dVar 0)])]) (bName 4) (tVal (d2 neM (dOwn (oLc (iSeq (d2 ixM (dVar 0) (dVar 4))) (bName 5) (tVal (d2 eqM (d2 ixM (dVar 5) (dVar 1)) (d2 ixM (dVar 5) (dVar 2)))) (dVar 5) [5])) (dOwn (oLst [])))) (dVar 4) [4]))
 (sFrz 3 (sRet (dTup [(dVar 3), (dOwn (oLc (iSeq (dVar 3)) (bName 4) (tVal (d2 eqM (dOwn (oLc (iSeq (d2 ixM (dVar 0) (dVar 4))) (bName 5) (tVal (d2 neM (d2 ixM (dVar 5) (dVar 1)) (d2 ixM (dVar 5) (dVar 2)))) (dVar 5) [5])) (dOwn (oLst [])))) (dVar 4) [4]))]))))
def F__law_meetings : List D → M D := runB 6 b__law_meetings
def b_look_asked : Sx :=
 (sSeq (sExpr (dCall WP.F_look_case [(dVar 0), (dVar 1), (dVar 2), (dVar 6)]))
 (sSeq (sExpr (dCall WP.F_look_one [(dVar 1), (dVar 3)]))
 (sSeq (sExpr (dCall WP.F_look_beat [(dVar 0), (dVar 4)]))
 (sExpr (dCall WP.F_look_room [(dVar 0), (dVar 5)])))))
def F_look_asked : List D → M D := runB 7 b_look_asked
def b__law_good : Sx :=
 (sSeq (sSetO 3 (oLst []))
 (sSeq (sFor (iCall rng1M [(d2 addM (d2 ixM (dVar 0) (dC (.int 2))) (dC (.int 1)))]) (bName 4)
 (sSeq (sSetO 5 (oLc (iSeq (dVar 2)) (bName 6) (tVal (d2 eqM (d2 ixM (dVar 6) (dC (.int 2))) (dVar 4))) (dVar 6) [6]))
 (sFrz 5 (sApp 3 (dOwn (oLc (iSeq (dCall WP.F__law_stands [(dVar 0), (dVar 1)])) (bName 7) (tVal (d2 eqM (dOwn (oLc (iSeq (dVar 5)) (bName 6) (tNotX (tVal (dCall WP.F__law_so [(dVar 0), (dVar 7), (dVar 6)]))) (dVar 6) [6])) (dOwn (oLst [])))) (dVar 7) [7]))))))
 (sFrz 3 (sRet (dVar 3)))))
def F__law_good : List D → M D := runB 8 b__law_good
def b__law_both : Sx :=
 (sRet (d2 addM (dVar 1) (dOwn (oLc (iSeq (dVar 2)) (bName 3) (tVal (d2 (inM true) (dVar 3) (dVar 1))) (dVar 3) [3]))))
def F__law_both : List D → M D := runB 4 b__law_both
def b_look_wish : Sx :=
 (sSeq (sExpr (dCall WP.F_look_case [(dVar 0), (dVar 1), (dVar 2), (dVar 4)]))
 (sIf (tOrX (tVal (d2 gtM (dCall (F1 lenM) [(dVar 2)]) (dC (.int 12)))) (tNotX (tVal (dCall WP.F_is_claim [(dVar 0), (dVar 1), (dVar 3)]))))
 (sRaise 5)
 sNil))
def F_look_wish : List D → M D := runB 5 b_look_wish
def b_lots_of : Sx :=
 (sSeq (sSet 2 (dOwn (oLst [(dTup [])])))
 (sSeq (sFor (iSeq (dVar 0)) (bName 3)
 (sSet 2 (d2 addM (dVar 2) (dOwn (oLc (iSeq (dVar 2)) (bName 4) (tVal (d2 ltM (dCall (F1 lenM) [(dVar 4)]) (dVar 1))) (d2 addM (dVar 4) (dTup [(dVar 3)])) [4])))))
 (sRet (dOwn (oCall (F1 sortM) [(dOwn (oLc (iSeq (dVar 2)) (bName 4) (tVal (d2 eqM (dCall (F1 lenM) [(dVar 4)]) (dVar 1))) (dVar 4) [4]))])))))
def F_lots_of : List D → M D := runB 5 b_lots_of
def b_meets : Sx :=
 (sRet (dCall (F1 allM) [(dOwn (oLc (iSeq (dVar 1)) (bName 2) tAll (dCall (F1 anyM) [(dOwn (oLc (iSeq (dVar 0)) (bName 3) tAll (d2 (inM false) (dVar 3) (dVar 2)) [3]))]) [2]))]))
def F_meets : List D → M D := runB 4 b_meets
def b__law_broken : Sx :=
 (sSeq (sSetO 4 (oLst []))
 (sSeq (sFor (iCall rng1M [(dCall (F1 lenM) [(dVar 1)])]) (bName 5)
 (sSeq (sSet 6 (d2 ixM (d2 ixM (dVar 1) (dVar 5)) (dC (.int 1))))
 (sIf (tAndX (tVal (d2 (inM true) (d2 ixM (d2 ixM (dVar 1) (dVar 5)) (dC (.int 0))) (dVar 2))) (tNotX (tVal (dCall WP.F__law_so [(dVar 0), (d2 ixM (dVar 3) (d2 ixM (dVar 6) (dC (.int 2)))), (dVar 6)]))))
 (sApp 4 (dVar 5))
 sNil)))
 (sFrz 4 (sRet (dVar 4)))))
def F__law_broken : List D → M D := runB 7 b__law_broken
def b__law_rows : Sx :=
 (sSeq (sSet 2 (dOwn (oLst [(dTup [])])))
 (sSeq (sFor (iSeq (dVar 0)) (bName 3)
 (sSet 2 (d2 addM (dVar 2) (dOwn (oLc (iSeq (dVar 2)) (bName 4) tAll (d2 addM (dVar 4) (dTup [(dVar 3)])) [4])))))
 (sRet (dOwn (oCall (F1 sortM) [(dOwn (oLc (iSeq (dVar 2)) (bName 4) (tVal (d2 eqM (dCall (F1 lenM) [(dVar 4)]) (dVar 1))) (dVar 4) [4]))])))))
def F__law_rows : List D → M D := runB 5 b__law_rows
def b__law_open : Sx :=
 (sRet (d2 eqM (dOwn (oLc (iSeq (dVar 1)) (bName 2) (tVal (d2 eqM (dOwn (oLc (iSeq (dVar 0)) (bName 3) (tVal (d2 (inM false) (dVar 3) (dVar 2))) (dVar 3) [3])) (dOwn (oLst [])))) (dVar 2) [2])) (dOwn (oLst []))))
def F__law_open : List D → M D := runB 4 b__law_open
def b_answer_in : Sx :=
 (sSeq (sIf (tVal (d2 eqM (d2 ixM (dVar 1) (dC (.int 0))) (dC (.str "where"))))
 (sRet (d2 ixM (dVar 0) (d2 ixM (dVar 1) (dC (.int 1)))))
 sNil)
 (sRet (d2 eqM (d2 ixM (dVar 0) (d2 ixM (dVar 1) (dC (.int 1)))) (d2 ixM (dVar 0) (d2 ixM (dVar 1) (dC (.int 2)))))))
def F_answer_in : List D → M D := runB 2 b_answer_in
def b__law_reply : Sx :=
 (sRet (dIf (tVal (d2 eqM (d2 ixM (dVar 1) (dC (.int 0))) (dC (.str "where")))) (d2 ixM (dVar 0) (d2 ixM (dVar 1) (dC (.int 1)))) (d2 eqM (d2 ixM (dVar 0) (d2 ixM (dVar 1) (dC (.int 1)))) (d2 ixM (dVar 0) (d2 ixM (dVar 1) (dC (.int 2)))))))
def F__law_reply : List D → M D := runB 2 b__law_reply
def b_fits_at : Sx :=
 (sRet (dCall (F1 allM) [(dOwn (oLc (iSeq (dVar 2)) (bName 4) (tVal (d2 eqM (d2 ixM (dVar 4) (dC (.int 2))) (dVar 3))) (dCall WP.F_holds [(dVar 0), (dVar 1), (dVar 4)]) [4]))]))
def F_fits_at : List D → M D := runB 5 b_fits_at
def b__law_kinds : Sx :=
 (sSeq (sSet 0 (dOwn (oLst [(dTup [(dC (.int 1)), (dTup []), (dC (.int 0)), (dTup []), (dTup [])]), (dTup [(dC (.int 6)), (dTup [(dTup [(dC (.int 0)), (dC (.int 1))]), (dTup [(dC (.int 0)), (dC (.int 5))]), (dTup [(dC (.int 4)), (dC (.int 5))])]), (dC (.int 12)), (dTup [(dTup [(dC (.int 0)), (dC (.int 0))]), (dTup [(dC (.int 12)), (dC (.int 2))])]), (dTup [(dTup [(dC (.int 0)), (dC (.int 5))]), (dTup [(dC (.int 12)), (dC (.int 0))])])])])))
 (sSeq (sSet 1 (dOwn (oLst [(dC .non), (dC (.int 5)), (dTup [(dC (.int 0)), (dTup []), (dC (.int 0)), (dTup []), (dTup [])]), (dTup [(dC (.int 7)), (dTup []), (dC (.int 0)), (dTup []), (dTup [])]), (dTup [(dC (.int 2)), (dTup []), (dC (.int 13)), (dTup []), (dTup [])]), (dTup [(dC (.int 2)), (dTup []), (d2 subM (dC (.int 0)) (dC (.int 1))), (dTup []), (dTup [])]), (dOwn (oLst [(dC (.int 2)), (dTup []), (dC (.int 0)), (dTup []), (dTup [])]))])))
 (sSeq (sSet 1 (d2 addM (dVar 1) (dOwn (oLst [(dTup [(dC (.int 2)), (dTup [(dTup [(dC (.int 1)), (dC (.int 0))])]), (dC (.int 0)), (dTup []), (dTup [])]), (dTup [(dC (.int 2)), (dTup [(dTup [(dC (.int 0)), (dC (.int 0))])]), (dC (.int 0)), (dTup []), (dTup [])]), (dTup [(dC (.int 2)), (dTup [(dTup [(dC (.int 0)), (dC (.int 2))])]), (dC (.int 0)), (dTup []), (dTup [])]), (dTup [(dC (.int 2)), (dTup [(dTup [(dC (.int 0)), (dC (.int 1))]), (dTup [(dC (.int 0)), (dC (.int 1))])]), (dC (.int 0)), (dTup []), (dTup [])]), (dTup [(dC (.int 2)), (dOwn (oLst [])), (dC (.int 0)), (dTup []), (dTup [])])]))))
 (sSeq (sSet 1 (d2 addM (dVar 1) (dOwn (oLst [(dTup [(dC (.int 2)), (dTup [(dTup [(dC (.int 0)), (dC (.int 1))])]), (dC (.int 1)), (dTup [(dTup [(dC (.int 2)), (dC (.int 0))])]), (dTup [])]), (dTup [(dC (.int 2)), (dTup [(dTup [(dC (.int 0)), (dC (.int 1))])]), (dC (.int 1)), (dTup [(dTup [(dC (.int 0)), (dC (.int 1))])]), (dTup [])]), (dTup [(dC (.int 2)), (dTup []), (dC (.int 1)), (dTup []), (dTup [(dTup [(dC (.int 0)), (dC (.int 2))])])]), (dTup [(dC (.int 2)), (dTup []), (dC (.int 1)), (dTup []), (dTup [(dTup [(dC (.int 0)), (dC (.int 0))]), (dTup [(dC (.int 0)), (dC (.int 0))])])])]))))
 (sSeq (sSet 1 (d2 addM (dVar 1) (dOwn (oLst [(dTup [(dC (.int 2)), (dTup []), (dC (.int 1)), (dTup []), (dTup [(dTup [(dC (.int 0))])])]), (dTup [(dC (.int 2)), (dTup []), (dC (.bl true)), (dTup []), (dTup [])]), (dTup [(dC (.int 2)), (dTup [(dTup [(dC (.int 0)), (dC (.bl true))])]), (dC (.int 1)), (dTup []), (dTup [])]), (dTup [(dC (.int 2)), (dTup []), (dC (.int 1)), (dTup [])])]))))
 (sRet (dAnd (d2 eqM (dOwn (oLc (iSeq (dVar 0)) (bName 2) tAll (dCall WP.F_is_house [(dVar 2)]) [2])) (d2 mulM (dOwn (oLst [(dC (.bl true))])) (dC (.int 2)))) (d2 eqM (dOwn (oLc (iSeq (dVar 1)) (bName 2) tAll (dCall WP.F_is_house [(dVar 2)]) [2])) (d2 mulM (dOwn (oLst [(dC (.bl false))])) (dC (.int 20)))))))))))
def F__law_kinds : List D → M D := runB 3 b__law_kinds
def b__law_known : Sx :=
 (sSeq (sIf (tVal (d2 eqM (d2 ixM (dVar 0) (dC (.int 0))) (dC (.str "where"))))
 (sRet (dOwn (oLst [(dTup [(dC .non), (dTup [(dC (.str "at")), (d2 ixM (dVar 0) (dC (.int 1))), (d2 ixM (dVar 0) (dC (.int 2))), (dVar 1)])])])))
 sNil)
 (sSeq (sIf (tNotX (tTru (dVar 1)))
 (sRet (dOwn (oLst [(dTup [(dC .non), (dTup [(dC (.str "missed")), (d2 ixM (dVar 0) (dC (.int 1))), (d2 ixM (dVar 0) (dC (.int 3))), (d2 ixM (dVar 0) (dC (.int 2)))])])])))
 sNil)
 (sRet (dOwn (oLst [(dTup [(dC .non), (dTup [(dC (.str "at")), (d2 ixM (dVar 0) (dC (.int 1))), (d2 ixM (dVar 0) (dC (.int 3))), (dVar 2)])]), (dTup [(dC .non), (dTup [(dC (.str "at")), (d2 ixM (dVar 0) (dC (.int 2))), (d2 ixM (dVar 0) (dC (.int 3))), (dVar 2)])])])))))
def F__law_known : List D → M D := runB 3 b__law_known
def b__law_met : Sx :=
 (sRet (dOwn (oLc (iCall rng1M [(dCall (F1 lenM) [(dVar 0)])]) (bName 2) tAll (dOwn (oLc (iSeq (d2 ixM (dVar 0) (dVar 2))) (bName 3) (tVal (d2 (inM false) (dVar 3) (d2 ixM (dVar 1) (dVar 2)))) (dVar 3) [3])) [2])))
def F__law_met : List D → M D := runB 4 b__law_met
end WP
set_option maxHeartbeats 4000000
namespace WW
open PySem PySem.Spec L2
section
variable {α β : Type} {ρ : En}
@[simp] theorem ap_dC (d : D) : dC d ρ = M.ret d := (rfl)
@[simp] theorem ap_d1 (f : D → M D) (a : Ex) : d1 f a ρ = (a ρ >>= f) := (rfl)
@[simp] theorem ap_d2 (f : D → D → M D) (a b : Ex) : d2 f a b ρ = (a ρ >>= fun x => b ρ >>= fun y => f x y) := (rfl)
@[simp] theorem ap_var (i : Nat) : dVar i ρ = match ρ[i]? with | some (some (.d x)) => M.ret x | _ => M.fail := (rfl)
@[simp] theorem ap_args0 : dArgs [] ρ = M.ret [] := (rfl)
@[simp] theorem ap_args (a : Ex) (as : List Ex) : dArgs (a :: as) ρ = (a ρ >>= fun x => dArgs as ρ >>= fun xs => M.ret (x :: xs)) := (rfl)
@[simp] theorem ap_call (F : List D → M D) (as : List Ex) : dCall F as ρ = (dArgs as ρ >>= F) := (rfl)
@[simp] theorem ap_ocall (F : List D → M (List D)) (as : List Ex) : oCall F as ρ = (dArgs as ρ >>= F) := (rfl)
@[simp] theorem ap_icall (F : List D → M (List D)) (as : List Ex) : iCall F as ρ = (dArgs as ρ >>= F) := (rfl)
@[simp] theorem ap_iseq (f : Ex) : iSeq f ρ = (f ρ >>= seqM) := (rfl)
@[simp] theorem ap_F1 (op : D → M α) (x : D) : F1 op [x] = op x := (rfl)
@[simp] theorem ap_val (f : Ex) : tVal f ρ = (f ρ >>= blM) := (rfl)
@[simp] theorem ap_tru (f : Ex) : tTru f ρ = (f ρ >>= truM) := (rfl)
@[simp] theorem ap_notX (f : Tx) : tNotX f ρ = (f ρ >>= fun b => M.ret (!b)) := (rfl)
@[simp] theorem ap_andX (f g : Tx) : tAndX f g ρ = (f ρ >>= fun b => if b = true then g ρ else M.ret false) := (rfl)
@[simp] theorem ap_orX (f g : Tx) : tOrX f g ρ = (f ρ >>= fun b => if b = true then M.ret true else g ρ) := (rfl)
@[simp] theorem ap_not (f : Ex) : dNot f ρ = (f ρ >>= blM >>= fun b => M.ret (.bl (!b))) := (rfl)
@[simp] theorem ap_and (f g : Ex) : dAnd f g ρ = (f ρ >>= blM >>= fun b => if b = true then g ρ else M.ret (.bl false)) := (rfl)
@[simp] theorem ap_or (f g : Ex) : dOr f g ρ = (f ρ >>= blM >>= fun b => if b = true then M.ret (.bl true) else g ρ) := (rfl)
@[simp] theorem ap_ife (t : Tx) (f g : Ex) : dIf t f g ρ = (t ρ >>= fun b => if b = true then f ρ else g ρ) := (rfl)
@[simp] theorem ap_chain (o o' : D → D → M D) (f g h : Ex) : dChain o o' f g h ρ = (f ρ >>= fun x => g ρ >>= fun y => o x y >>= blM >>= fun b => if b = true then h ρ >>= fun z => o' y z else M.ret (.bl false)) := (rfl)
@[simp] theorem ap_tup (as : List Ex) : dTup as ρ = (dArgs as ρ >>= fun xs => if xs.length ≤ sizeLine then M.ret (.tup xs) else M.fail) := (rfl)
@[simp] theorem ap_olst (as : List Ex) : oLst as ρ = (dArgs as ρ >>= fun xs => if xs.length ≤ sizeLine then M.ret xs else M.fail) := (rfl)
@[simp] theorem ap_own (f : Ox) : dOwn f ρ = (f ρ >>= fun xs => M.ret (.lst xs)) := (rfl)
@[simp] theorem ap_all : tAll ρ = M.ret true := (rfl)
@[simp] theorem bl_ret (b : Bool) : blM (.bl b) = M.ret b := (rfl)
@[simp] theorem seq_lst (xs : List D) : seqM (.lst xs) = M.ret xs := (rfl)
@[simp] theorem seq_tup (xs : List D) : seqM (.tup xs) = M.ret xs := (rfl)
@[simp] theorem sub_ii (i j : Int) : subM (.int i) (.int j) = M.ret (.int (i - j)) := (rfl)
@[simp] theorem add_ii (i j : Int) : addM (.int i) (.int j) = M.ret (.int (i + j)) := (rfl)
@[simp] theorem le_ii (i j : Int) : leM (.int i) (.int j) = M.ret (.bl (decide (i ≤ j))) := (rfl)
@[simp] theorem ge_ii (i j : Int) : geM (.int i) (.int j) = M.ret (.bl (decide (j ≤ i))) := (rfl)
@[simp] theorem gt_ii (i j : Int) : gtM (.int i) (.int j) = M.ret (.bl (decide (j < i))) := (rfl)
@[simp] theorem lt_ii (i j : Int) : ltM (.int i) (.int j) = M.ret (.bl (decide (i < j))) := (rfl)
@[simp] theorem len_lst (xs : List D) : lenM (.lst xs) = M.ret (.int xs.length) := (rfl)
@[simp] theorem len_tup (xs : List D) : lenM (.tup xs) = M.ret (.int xs.length) := (rfl)
@[simp] theorem tuple_lst (xs : List D) : tupleM (.lst xs) = M.ret (.tup xs) := (rfl)
@[simp] theorem tuple_tup (xs : List D) : tupleM (.tup xs) = M.ret (.tup xs) := (rfl)
@[simp] theorem noX_ret (a : α) : noX (M.ret a) = M.ret a := (rfl)
@[simp] theorem ap_sNil : sNil ρ = M.ret (.nx ρ) := (rfl)
@[simp] theorem ap_sSeq (s t : Sx) : sSeq s t ρ = (s ρ >>= onNx t) := (rfl)
@[simp] theorem onNx_nx (t : Sx) : onNx t (.nx ρ) = t ρ := (rfl)
@[simp] theorem onNx_rt (t : Sx) (d : D) : onNx t (.rt d) = M.ret (.rt d) := (rfl)
@[simp] theorem onNx_bk (t : Sx) : onNx t (.bk ρ) = M.ret (.bk ρ) := (rfl)
@[simp] theorem onNx_ct (t : Sx) : onNx t (.ct ρ) = M.ret (.ct ρ) := (rfl)
@[simp] theorem ap_sIf (c : Tx) (s t : Sx) : sIf c s t ρ = (c ρ >>= fun b => if b = true then s ρ else t ρ) := (rfl)
@[simp] theorem ap_sSet (i : Nat) (f : Ex) : sSet i f ρ = (f ρ >>= fun d => M.ret (.nx (ρ.set i (some (.d d))))) := (rfl)
@[simp] theorem ap_sSetO (i : Nat) (f : Ox) : sSetO i f ρ = (f ρ >>= fun ds => M.ret (.nx (ρ.set i (some (.ol ds))))) := (rfl)
@[simp] theorem ap_sExpr (f : Ex) : sExpr f ρ = (f ρ >>= fun _ => M.ret (.nx ρ)) := (rfl)
@[simp] theorem ap_sRet (f : Ex) : sRet f ρ = (f ρ >>= fun d => M.ret (.rt d)) := (rfl)
@[simp] theorem ap_sRetN : sRetN ρ = M.ret (.rt .non) := (rfl)
@[simp] theorem ap_sRaise (k : Nat) : sRaise k ρ = M.rais k := (rfl)
@[simp] theorem ap_sBrk : sBrk ρ = M.ret (.bk ρ) := (rfl)
@[simp] theorem ap_sCnt : sCnt ρ = M.ret (.ct ρ) := (rfl)
@[simp] theorem ap_sFrz (i : Nat) (s : Sx) : sFrz i s ρ = s (frzE i ρ) := (rfl)
@[simp] theorem ap_sPar (is : List Nat) (as : List Ex) : sPar is as ρ = (dArgs as ρ >>= fun ds => M.ret (.nx (setsE is ds ρ))) := (rfl)
@[simp] theorem ap_sUnp (is : List Nat) (f : Ex) : sUnp is f ρ = (f ρ >>= fun d => match d with | .tup ds => if ds.length = is.length then M.ret (.nx (setsE is ds ρ)) else M.fail | _ => M.fail) := (rfl)
@[simp] theorem ap_sFor (src : Sr) (b : Bd) (body : Sx) : sFor src b body ρ = (src ρ >>= fun xs => forM b body xs ρ) := (rfl)
@[simp] theorem setsE_cons (i : Nat) (is : List Nat) (d : D) (ds : List D) : setsE (i :: is) (d :: ds) ρ = setsE is ds (ρ.set i (some (.d d))) := (rfl)
@[simp] theorem setsE_nil (ds : List D) : setsE [] ds ρ = ρ := (rfl)
@[simp] theorem ap_oLc (src : Sr) (b : Bd) (t : Tx) (el : Ex) (vs : List Nat) : oLc src b t el vs ρ = if okW ρ vs = true then src ρ >>= fun xs => noX (lcM (wipeE ρ vs) b t el xs) else M.fail := (rfl)
@[simp] theorem runB_ap (n : Nat) (f : Sx) (ds : List D) : runB n f ds = (f (startE n ds) >>= endM) := (rfl)
@[simp] theorem end_rt (d : D) : endM (.rt d) = M.ret d := (rfl)
@[simp] theorem end_nx : endM (.nx ρ) = M.ret .non := (rfl)
@[simp] theorem ap_bind {γ : Type} (a : M α) (f : α → M β) (g : β → M γ) : ((a >>= f) >>= g) = (a >>= fun x => f x >>= g) := bind_assoc' a f g
end
@[simp] theorem okW_nil {ρ : En} : okW ρ [] = true := (rfl)
@[simp] theorem okW_cons {ρ : En} (v : Nat) (vs : List Nat) : okW ρ (v :: vs) = ((match ρ[v]? with | some (some (.ol _)) => false | some (some (.od _ _)) => false | _ => true) && okW ρ vs) := (rfl)
@[simp] theorem wipeE_nil {ρ : En} : wipeE ρ [] = ρ := (rfl)
@[simp] theorem wipeE_cons {ρ : En} (v : Nat) (vs : List Nat) : wipeE ρ (v :: vs) = (wipeE ρ vs).set v none := (rfl)
@[simp] theorem startE_ap (n : Nat) (ds : List D) : startE n ds = ds.map (fun d => some (.d d)) ++ List.replicate (n - ds.length) none := (rfl)
@[simp] theorem putE_ap (ρ : En) (i : Nat) (d : D) : putE ρ i d = ρ.set i (some (.d d)) := (rfl)
@[simp] theorem frzE_ap (ρ : En) (i : Nat) : frzE i ρ = (match ρ[i]? with | some (some (.ol ds)) => ρ.set i (some (.d (.lst ds))) | some (some (.od ks vs)) => ρ.set i (some (.d (.dct ks vs))) | _ => ρ) := (rfl)
@[simp] theorem bName_ap (i : Nat) (d : D) (ρ : En) : bName i d ρ = some (ρ.set i (some (.d d))) := (rfl)
@[simp] theorem bTup_ap (is : List Nat) (ds : List D) (ρ : En) : bTup is (.tup ds) ρ = if ds.length = is.length then some (setsE is ds ρ) else none := (rfl)
@[simp] theorem isi_ll (T : String) (xs : List D) : isiD T (.lst xs) = M.ret (.bl (T == "list")) := (rfl)
@[simp] theorem isi_tt (T : String) (xs : List D) : isiD T (.tup xs) = M.ret (.bl (T == "tuple")) := (rfl)
@[simp] theorem isi_ii (T : String) (i : Int) : isiD T (.int i) = M.ret (.bl (T == "int")) := (rfl)
@[simp] theorem isi_ss (T : String) (i : Str) : isiD T (.str i) = M.ret (.bl (T == "str")) := (rfl)
@[simp] theorem isi_bb (T : String) (i : Bool) : isiD T (.bl i) = M.ret (.bl (T == "int" || T == "bool")) := (rfl)
@[simp] theorem isi_nn (T : String) : isiD T .non = M.ret (.bl false) := (rfl)
/-- a comprehension that only looks -/
theorem lcM_pure {ι : Type} {ρ0 : En} {b : Bd} {t : Tx} {el : Ex} (enc : ι → D) (p : ι → Bool) (g : ι → D) : ∀ (xs : List ι), (∀ x ∈ xs, ∃ ρ, b (enc x) ρ0 = some ρ ∧ t ρ = M.ret (p x) ∧ (p x = true → el ρ = M.ret (g x))) →
    lcM ρ0 b t el (xs.map enc) = M.ret ((xs.filter p).map g)
  | [], _ => rfl
  | x :: xs, h => by
    obtain ⟨ρ, h1, h2, h3⟩ := h x List.mem_cons_self
    have ih := lcM_pure (ρ0 := ρ0) (b := b) (t := t) (el := el) enc p g xs fun y hy => h y (List.mem_cons_of_mem _ hy)
    rw [List.map_cons]
    unfold lcM
    rw [h1]
    simp only [h2, ret_bind]
    cases hp : p x with
    | true => rw [if_pos rfl, h3 hp, ret_bind, ih, ret_bind, List.filter_cons_of_pos hp]; rfl
    | false => rw [if_neg (by simp), ih, List.filter_cons_of_neg (by simp [hp])]
theorem filter_tt {α : Type} (xs : List α) : xs.filter (fun _ => true) = xs := by simp
@[simp] theorem all_tt {α : Type} (xs : List α) : xs.all (fun _ => true) = true := List.all_eq_true.mpr fun _ _ => rfl
theorem all_ret {ι : Type} (xs : List ι) (p : ι → Bool) : allM (.lst (xs.map fun x => .bl (p x))) = M.ret (.bl (xs.all p)) := by
  have e : (xs.map fun x => D.bl (p x)) = (xs.map p).map D.bl := by rw [List.map_map]; rfl
  rw [e]
  show (match blsOf ((xs.map p).map D.bl) with | some bs => M.ret (D.bl (bs.all id)) | none => M.fail) = _
  rw [blsOf_map]
  simp [List.all_map, Function.comp_def]
theorem any_ret {ι : Type} (xs : List ι) (p : ι → Bool) : anyM (.lst (xs.map fun x => .bl (p x))) = M.ret (.bl (xs.any p)) := by
  have e : (xs.map fun x => D.bl (p x)) = (xs.map p).map D.bl := by rw [List.map_map]; rfl
  rw [e]
  show (match blsOf ((xs.map p).map D.bl) with | some bs => M.ret (D.bl (bs.any id)) | none => M.fail) = _
  rw [blsOf_map]
  simp [List.any_map, Function.comp_def]
theorem ix_tup_ {ds : List D} {i : Int} {k : Nat} {d : D} (hi : i = (k : Int)) (h : ds[k]? = some d) : ixM (.tup ds) (.int i) = M.ret d := by
  subst hi
  have lt : k < ds.length := (List.getElem?_eq_some_iff.mp h).1
  simp only [ixM, atI, ixN]
  rw [if_pos (by omega), if_pos (by omega)]
  simp [h, M.ofO]
theorem ix_lst_ {ds : List D} {i : Int} {k : Nat} {d : D} (hi : i = (k : Int)) (h : ds[k]? = some d) : ixM (.lst ds) (.int i) = M.ret d := by
  subst hi
  have lt : k < ds.length := (List.getElem?_eq_some_iff.mp h).1
  simp only [ixM, atI, ixN]
  rw [if_pos (by omega), if_pos (by omega)]
  simp [h, M.ofO]
theorem rng1_ret {j : Int} (h : 0 ≤ j) (h2 : j ≤ 1000) : rng1M [.int j] = M.ret ((List.range j.toNat).map fun (k : Nat) => .int (k : Int)) := by
  have z : (1000 : Nat) ≤ sizeLine := by decide
  show (if (inB j && decide (j.toNat ≤ sizeLine)) = true then M.ret (rngL 0 j.toNat) else M.fail) = _
  rw [if_pos]
  · simp [rngL]
  · simp only [Bool.and_eq_true, decide_eq_true_eq, inB]
    refine ⟨⟨by omega, by omega⟩, by omega⟩
theorem enum_zip (xs : List D) : enumL xs = xs.zipIdx.map fun q => .tup [.int (q.2 : Int), q.1] := by
  unfold enumL
  apply List.ext_getElem?
  intro i
  simp only [List.getElem?_mapIdx, List.getElem?_map, List.getElem?_zipIdx]
  cases xs[i]? <;> simp
abbrev P2 := Int × Int
def eP (p : P2) : D := .tup [.int p.1, .int p.2]
def ePs (xs : List P2) : D := .tup (xs.map eP)
theorem okDs_map {ι : Type} (f : ι → D) (n : Nat) (h : ∀ x, okD (f x) n = true) : ∀ xs : List ι, okDs (xs.map f) n = true
  | [] => rfl
  | x :: xs => by rw [List.map_cons, okDs, h x, okDs_map f n h xs]; rfl
@[simp] theorem okD_int (i : Int) (n : Nat) : okD (.int i) n = true := by cases n <;> rfl
@[simp] theorem okD_str (i : Str) (n : Nat) : okD (.str i) n = true := by cases n <;> rfl
@[simp] theorem okD_non (n : Nat) : okD .non n = true := by cases n <;> rfl
@[simp] theorem okD_bl (b : Bool) (n : Nat) : okD (.bl b) n = true := by cases n <;> rfl
@[simp] theorem okD_tup (xs : List D) (n : Nat) : okD (.tup xs) (n + 1) = okDs xs n := (rfl)
@[simp] theorem okD_lst (xs : List D) (n : Nat) : okD (.lst xs) (n + 1) = okDs xs n := (rfl)
@[simp] theorem okDs_nil (n : Nat) : okDs [] n = true := (rfl)
@[simp] theorem okDs_cons (x : D) (xs : List D) (n : Nat) : okDs (x :: xs) n = (okD x n && okDs xs n) := (rfl)
theorem okD_eP (p : P2) (n : Nat) : okD (eP p) (n + 1) = true := by simp [eP]
theorem okD_ePs (xs : List P2) (n : Nat) : okD (ePs xs) (n + 2) = true := by unfold ePs; rw [okD_tup]; exact okDs_map eP _ (fun p => okD_eP p n) xs
@[simp] theorem eqB_ii (i j : Int) : eqB (.int i) (.int j) = (i == j) := (rfl)
@[simp] theorem eqB_ss (i j : Str) : eqB (.str i) (.str j) = (i == j) := (rfl)
@[simp] theorem eqB_tt (xs ys : List D) : eqB (.tup xs) (.tup ys) = eqBs xs ys := (rfl)
@[simp] theorem eqB_ll (xs ys : List D) : eqB (.lst xs) (.lst ys) = eqBs xs ys := (rfl)
@[simp] theorem eqBs_nn : eqBs [] [] = true := (rfl)
@[simp] theorem eqBs_cc (x y : D) (xs ys : List D) : eqBs (x :: xs) (y :: ys) = (eqB x y && eqBs xs ys) := (rfl)
@[simp] theorem eqBs_nc (y : D) (ys : List D) : eqBs [] (y :: ys) = false := (rfl)
@[simp] theorem eqBs_cn (y : D) (ys : List D) : eqBs (y :: ys) [] = false := (rfl)
@[simp] theorem eqB_iN (i : Int) : eqB (.int i) .non = false := (rfl)
@[simp] theorem eqB_Ni (i : Int) : eqB .non (.int i) = false := (rfl)
@[simp] theorem eqB_NN : eqB .non .non = true := (rfl)
@[simp] theorem eqB_bb (a b : Bool) : eqB (.bl a) (.bl b) = (a == b) := (rfl)
@[simp] theorem eqB_eP (p q : P2) : eqB (eP p) (eP q) = decide (p = q) := by
  obtain ⟨a, b⟩ := p
  obtain ⟨d, e⟩ := q
  simp only [eP, eqB_tt, eqBs_cc, eqB_ii, eqBs_nn, Bool.and_true, Prod.mk.injEq]
  by_cases h : a = d <;> by_cases h2 : b = e <;> simp [h, h2]
theorem in_pairs (neg : Bool) (q : P2) (xs : List P2) : inM neg (eP q) (ePs xs) = M.ret (.bl (xor neg (decide (q ∈ xs)))) := by
  have h1 : okD (eP q) 64 = true := okD_eP q 63
  have h2 : okD (ePs xs) 64 = true := okD_ePs xs 62
  have e : ((xs.map eP).any fun z => eqB z (eP q)) = decide (q ∈ xs) := by
    rw [List.any_map]
    simp only [Function.comp_def, eqB_eP]
    by_cases h : q ∈ xs
    · rw [decide_eq_true h]
      exact List.any_eq_true.mpr ⟨q, h, by simp⟩
    · rw [decide_eq_false h]
      exact List.any_eq_false.mpr fun x hx z => h (by rw [← of_decide_eq_true z]; exact hx)
  unfold ePs at h2 ⊢
  simp only [inM, h1, h2, Bool.and_self, if_true, e]
def ltP (p q : P2) : Bool := decide (p.1 < q.1 ∨ (p.1 = q.1 ∧ p.2 < q.2))
theorem lt_eP (p q : P2) : ltM (eP p) (eP q) = M.ret (.bl (ltP p q)) := by
  obtain ⟨a, b⟩ := p
  obtain ⟨d, e⟩ := q
  have h : HT.lexLt [a, b] [d, e] = ltP (a, b) (d, e) := by
    simp only [HT.lexLt, ltP]
    by_cases h1 : a = d
    · subst h1
      simp
      omega
    · simp [h1]
  simp [eP, ltM, intsOf, h]
@[simp] theorem sz0 : (0 ≤ sizeLine) = True := by simp
@[simp] theorem sz1 : (1 ≤ sizeLine) = True := eq_true (by decide)
@[simp] theorem sz2 : (2 ≤ sizeLine) = True := eq_true (by decide)
@[simp] theorem sz3 : (3 ≤ sizeLine) = True := eq_true (by decide)
@[simp] theorem sz4 : (4 ≤ sizeLine) = True := eq_true (by decide)
@[simp] theorem sz5 : (5 ≤ sizeLine) = True := eq_true (by decide)
@[simp] theorem sz6 : (6 ≤ sizeLine) = True := eq_true (by decide)
theorem szn {n : Nat} (h : n ≤ 1000) : n ≤ sizeLine := Nat.le_trans h (by decide)
theorem szl {n : Nat} (h : n < 1000) : n < sizeLine := Nat.lt_of_lt_of_le h (by decide)
@[simp] theorem in_pairs' (neg : Bool) (a b : Int) (xs : List P2) : inM neg (.tup [.int a, .int b]) (ePs xs) = M.ret (.bl (xor neg (decide ((a, b) ∈ xs)))) := in_pairs neg (a, b) xs
@[simp] theorem in_two (neg : Bool) (x a b : Int) : inM neg (.int x) (.tup [.int a, .int b]) = M.ret (.bl (xor neg (a == x || b == x))) := by simp [inM]
@[simp] theorem in_twoS (neg : Bool) (x a b : Str) : inM neg (.str x) (.tup [.str a, .str b]) = M.ret (.bl (xor neg (a == x || b == x))) := by simp [inM]
@[simp] theorem forM_nil (b : Bd) (body : Sx) (ρ : En) : forM b body [] ρ = M.ret (.nx ρ) := (rfl)
theorem forM_cons (b : Bd) (body : Sx) (x : D) (xs : List D) (ρ ρ1 ρ2 : En) (h1 : b x ρ = some ρ1) (h2 : body ρ1 = M.ret (.nx ρ2)) : forM b body (x :: xs) ρ = forM b body xs ρ2 := by
  show (match b x ρ with | none => M.fail | some ρ1 => body ρ1 >>= fun fl => match fl with | .nx ρ2 => forM b body xs ρ2 | .ct ρ2 => forM b body xs ρ2 | .bk ρ2 => M.ret (.nx ρ2) | .rt d => M.ret (.rt d)) = _
  rw [h1]
  simp only [h2, ret_bind]
theorem app_ret (i : Nat) (f : Ex) (ρ : En) (ds : List D) (d : D) (h1 : ρ[i]? = some (some (.ol ds))) (h2 : f ρ = M.ret d) (h3 : ds.length < 1000) : sApp i f ρ = M.ret (.nx (ρ.set i (some (.ol (ds ++ [d]))))) := by
  unfold sApp
  rw [h1]
  simp only [h2, ret_bind]
  rw [if_pos (szl h3)]
theorem sort_ints (ns : List Int) : sortM (.lst (ns.map .int)) = M.ret ((isort ns).map .int) := by
  show (match intsOf (ns.map .int) with | some ns => M.ret ((isort ns).map D.int) | none => _) = _
  rw [intsOf_map]
theorem eq_ret {x y : D} (hx : okD x 64 = true) (hy : okD y 64 = true) : eqM x y = M.ret (.bl (eqB x y)) := by simp [eqM, hx, hy]
theorem ne_ret {x y : D} (hx : okD x 64 = true) (hy : okD y 64 = true) : neM x y = M.ret (.bl (!eqB x y)) := by simp [neM, hx, hy]
@[simp] theorem eq_ii (i j : Int) : eqM (.int i) (.int j) = M.ret (.bl (i == j)) := (rfl)
@[simp] theorem ne_ii (i j : Int) : neM (.int i) (.int j) = M.ret (.bl (!(i == j))) := (rfl)
@[simp] theorem eq_ss (i j : Str) : eqM (.str i) (.str j) = M.ret (.bl (i == j)) := (rfl)
@[simp] theorem ne_ss (i j : Str) : neM (.str i) (.str j) = M.ret (.bl (!(i == j))) := (rfl)
@[simp] theorem eq_bb (i j : Bool) : eqM (.bl i) (.bl j) = M.ret (.bl (i == j)) := (rfl)
@[simp] theorem ne_bb (i j : Bool) : neM (.bl i) (.bl j) = M.ret (.bl (!(i == j))) := (rfl)
@[simp] theorem ix_t0 (x : D) (xs : List D) : ixM (.tup (x :: xs)) (.int 0) = M.ret x := ix_tup_ (k := 0) rfl rfl
@[simp] theorem ix_t1 (x y : D) (xs : List D) : ixM (.tup (x :: y :: xs)) (.int 1) = M.ret y := ix_tup_ (k := 1) rfl rfl
@[simp] theorem ix_t2 (x y z : D) (xs : List D) : ixM (.tup (x :: y :: z :: xs)) (.int 2) = M.ret z := ix_tup_ (k := 2) rfl rfl
@[simp] theorem ix_t3 (x y z u : D) (xs : List D) : ixM (.tup (x :: y :: z :: u :: xs)) (.int 3) = M.ret u := ix_tup_ (k := 3) rfl rfl
@[simp] theorem ix_t4 (x y z u v : D) (xs : List D) : ixM (.tup (x :: y :: z :: u :: v :: xs)) (.int 4) = M.ret v := ix_tup_ (k := 4) rfl rfl
@[simp] theorem ix_l0 (x : D) (xs : List D) : ixM (.lst (x :: xs)) (.int 0) = M.ret x := ix_lst_ (k := 0) rfl rfl
@[simp] theorem ix_l1 (x y : D) (xs : List D) : ixM (.lst (x :: y :: xs)) (.int 1) = M.ret y := ix_lst_ (k := 1) rfl rfl
@[simp] theorem seq_ePs (xs : List P2) : seqM (ePs xs) = M.ret (xs.map eP) := (rfl)
@[simp] theorem len_ePs (xs : List P2) : lenM (ePs xs) = M.ret (.int xs.length) := by simp [ePs]
@[simp] theorem isi_ePs (T : String) (xs : List P2) : isiD T (ePs xs) = M.ret (.bl (T == "tuple")) := (rfl)
@[simp] theorem enum_ePs (xs : List P2) : enumM [ePs xs] = M.ret (xs.zipIdx.map fun q => .tup [.int (q.2 : Int), eP q.1]) := by
  unfold ePs enumM
  simp only
  rw [enum_zip, List.zipIdx_map, List.map_map]
  rfl
end WW
set_option maxHeartbeats 4000000
namespace WW
open PySem PySem.Spec L2
theorem is_whole_i (x a b : Int) : WP.F_is_whole [.int x, .int a, .int b] = M.ret (.bl (decide (a ≤ x) && decide (x ≤ b))) := by
  simp [WP.F_is_whole, WP.b_is_whole]
  by_cases h : a ≤ x <;> simp [h]
theorem big100 : (100 : Nat) ≤ sizeLine := by decide
structure PairsOk (xs : List P2) (m n : Int) : Prop where
  rng : ∀ p ∈ xs, 0 ≤ p.1 ∧ p.1 < m ∧ 0 ≤ p.2 ∧ p.2 < n
  inc : xs.Pairwise fun p q => ltP p q = true
  len : xs.length ≤ 100
/-- lcM over data as they stand -/
theorem lcM_id {ρ0 : En} {b : Bd} {t : Tx} {el : Ex} (p : D → Bool) (g : D → D) (xs : List D) (h : ∀ x ∈ xs, ∃ ρ, b x ρ0 = some ρ ∧ t ρ = M.ret (p x) ∧ (p x = true → el ρ = M.ret (g x))) :
    lcM ρ0 b t el xs = M.ret ((xs.filter p).map g) := by
  have q := lcM_pure (ρ0 := ρ0) (b := b) (t := t) (el := el) (fun x : D => x) p g xs h
  simpa using q
/-- .. all of them, each told -/
theorem lcM_all {ι : Type} {ρ0 : En} {b : Bd} {el : Ex} (enc : ι → D) (g : ι → D) (xs : List ι) (h : ∀ x ∈ xs, ∃ ρ, b (enc x) ρ0 = some ρ ∧ el ρ = M.ret (g x)) : lcM ρ0 b tAll el (xs.map enc) = M.ret (xs.map g) := by
  have q := lcM_pure (ρ0 := ρ0) (b := b) (t := tAll) (el := el) enc (fun _ => true) g xs fun x hx => by
    obtain ⟨ρ, h1, h2⟩ := h x hx
    exact ⟨ρ, h1, rfl, fun _ => h2⟩
  rwa [filter_tt] at q
theorem are_pairs_ok {xs : List P2} {m n : Int} (h : PairsOk xs m n) : WP.F_are_pairs [ePs xs, .int m, .int n] = M.ret (.bl true) := by
  have z := big100
  have hl := h.len
  simp only [WP.F_are_pairs, runB_ap, WP.b_are_pairs]
  simp
  rw [lcM_all eP (fun _ => .bl true) xs fun p hp => ⟨_, rfl, by simp [eP]⟩]
  simp only [noX_ret, ret_bind, all_ret]
  simp
  rw [lcM_all eP (fun _ => .bl true) xs fun p hp => ⟨_, rfl, by
    obtain ⟨h1, h2, h3, h4⟩ := h.rng p hp
    have e1 : p.1 ≤ m - 1 := by omega
    have e2 : p.2 ≤ n - 1 := by omega
    simp [eP, is_whole_i, h1, h3, e1, e2]⟩]
  simp only [noX_ret, ret_bind, all_ret]
  simp
  by_cases e : xs = []
  · subst e
    rfl
  have pos : 0 < xs.length := by cases xs <;> simp_all
  rw [rng1_ret (by omega) (by omega)]
  simp only [ret_bind]
  rw [lcM_all (fun k : Nat => D.int (k : Int)) (fun _ => .bl true) _ fun k hk => ⟨_, rfl, by
    have lt : k + 1 < xs.length := by
      have := List.mem_range.mp hk
      omega
    have l1 : ixM (ePs xs) (.int (k : Int)) = M.ret (eP xs[k]) := ix_tup_ rfl (by simp [show k < xs.length by omega])
    have l2 : ixM (ePs xs) (.int ((k : Int) + 1)) = M.ret (eP xs[k + 1]) := ix_tup_ (k := k + 1) (by omega) (by simp [lt])
    have l3 : ltP xs[k] xs[k + 1] = true := List.pairwise_iff_getElem.mp h.inc k (k + 1) _ _ (by omega)
    simp [l1, l2, lt_eP, l3]⟩]
  simp only [noX_ret, ret_bind, all_ret]
  simp
structure Hs where
  rooms : Int
  doors : List P2
  last : Int
  shut : List P2
  dark : List P2
def eH (h : Hs) : D := .tup [.int h.rooms, ePs h.doors, .int h.last, ePs h.shut, ePs h.dark]
structure HOk (h : Hs) : Prop where
  r1 : 1 ≤ h.rooms
  r2 : h.rooms ≤ 6
  l1 : 0 ≤ h.last
  l2 : h.last ≤ 12
  d : PairsOk h.doors h.rooms h.rooms
  dlt : ∀ p ∈ h.doors, p.1 < p.2
  s : PairsOk h.shut (h.last + 1) h.doors.length
  k : PairsOk h.dark (h.last + 1) h.rooms
theorem okD_eH (h : Hs) (n : Nat) : okD (eH h) (n + 3) = true := by simp [eH, okD_ePs]
theorem is_house_ok {h : Hs} (k : HOk h) : WP.F_is_house [eH h] = M.ret (.bl true) := by
  have k1 := k.r1
  have k2 := k.r2
  have k3 := k.l1
  have k4 := k.l2
  have ar := are_pairs_ok k.d
  have as := are_pairs_ok k.s
  have ak := are_pairs_ok k.k
  simp only [WP.F_is_house, runB_ap, WP.b_is_house, eH]
  simp [is_whole_i, k1, k2, ar]
  rw [lcM_all eP (fun _ => .bl false) h.doors fun p hp => ⟨_, rfl, by
    have := k.dlt p hp
    have e : ¬ (p.2 ≤ p.1) := by omega
    simp [eP, e]⟩]
  simp only [noX_ret, ret_bind, any_ret]
  have e0 : (h.doors.any fun _ => false) = false := by simp
  simp [e0, is_whole_i, k3, k4, as, ak]
theorem look_house_ok {h : Hs} (k : HOk h) {m : Int} (h1 : 1 ≤ m) (h2 : m ≤ 4) : WP.F_look_house [eH h, .int m] = M.ret .non := by
  simp only [WP.F_look_house, runB_ap, WP.b_look_house]
  simp [is_house_ok k, is_whole_i, h1, h2]
@[simp] theorem eH_0 (h : Hs) : ixM (eH h) (.int 0) = M.ret (.int h.rooms) := by simp [eH]
@[simp] theorem eH_1 (h : Hs) : ixM (eH h) (.int 1) = M.ret (ePs h.doors) := by simp [eH]
@[simp] theorem eH_2 (h : Hs) : ixM (eH h) (.int 2) = M.ret (.int h.last) := by simp [eH]
@[simp] theorem eH_3 (h : Hs) : ixM (eH h) (.int 3) = M.ret (ePs h.shut) := by simp [eH]
@[simp] theorem eH_4 (h : Hs) : ixM (eH h) (.int 4) = M.ret (ePs h.dark) := by simp [eH]
theorem look_beat_ok (h : Hs) {b : Int} (h1 : 0 ≤ b) (h2 : b ≤ h.last) : WP.F_look_beat [eH h, .int b] = M.ret .non := by
  simp only [WP.F_look_beat, runB_ap, WP.b_look_beat]
  simp [is_whole_i, h1, h2]
theorem look_room_ok (h : Hs) {r : Int} (h1 : 0 ≤ r) (h2 : r < h.rooms) : WP.F_look_room [eH h, .int r] = M.ret .non := by
  have e : r ≤ h.rooms - 1 := by omega
  simp only [WP.F_look_room, runB_ap, WP.b_look_room]
  simp [is_whole_i, h1, e]
def opn (h : Hs) (beat : Int) : List P2 := (h.doors.zipIdx.filter fun q => !decide ((beat, (q.2 : Int)) ∈ h.shut)).map (·.1)
theorem open_doors_ok (h : Hs) (beat : Int) : WP.F_open_doors [eH h, .int beat] = M.ret (.lst ((opn h beat).map eP)) := by
  simp only [WP.F_open_doors, runB_ap, WP.b_open_doors]
  simp
  rw [lcM_pure (fun q : P2 × Nat => .tup [.int (q.2 : Int), eP q.1]) (fun q => !decide ((beat, (q.2 : Int)) ∈ h.shut)) (fun q => eP q.1) h.doors.zipIdx fun q hq => ⟨_, rfl, by simp, by simp⟩]
  simp [opn, List.map_map, Function.comp_def]
def bsd (ps : List P2) (room : Int) : List Int := (ps.filter fun p => p.1 == room || p.2 == room).map fun p => p.1 + p.2 - room
theorem beside_loop (H room beat : D) (r : Int) (hr : room = .int r) : ∀ (ps : List P2) (acc : List Int) (x y : Option SV), acc.length + ps.length ≤ 100 → ∃ x' y', forM (bTup [4, 5]) (sIf (tVal (d2 (inM false) (dVar 1) (dTup [(dVar 4), (dVar 5)]))) (sApp 3 (d2 subM (d2 addM (dVar 4) (dVar 5)) (dVar 1))) sNil) (ps.map eP)
      [some (.d H), some (.d room), some (.d beat), some (.ol (acc.map .int)), x, y] = M.ret (.nx [some (.d H), some (.d room), some (.d beat), some (.ol ((acc ++ bsd ps r).map .int)), x', y'])
  | [], acc, x, y, _ => ⟨x, y, by simp [bsd]⟩
  | p :: ps, acc, x, y, hl => by
    subst hr
    rw [List.length_cons] at hl
    rw [List.map_cons]
    cases hp : (p.1 == r || p.2 == r) with
    | true =>
      obtain ⟨x', y', h⟩ := beside_loop H (.int r) beat r rfl ps (acc ++ [p.1 + p.2 - r]) (some (.d (.int p.1))) (some (.d (.int p.2))) (by simp; omega)
      refine ⟨x', y', ?_⟩
      rw [forM_cons _ _ _ _ _ _ _ rfl (by
        simp [hp]
        rw [app_ret 3 _ _ (acc.map .int) (.int (p.1 + p.2 - r)) rfl (by simp) (by simp; omega)])]
      simp only [List.set_cons_succ, List.set_cons_zero]
      rw [show acc.map D.int ++ [.int (p.1 + p.2 - r)] = (acc ++ [p.1 + p.2 - r]).map .int by simp]
      rw [h]
      simp [bsd, List.filter_cons, hp]
    | false =>
      obtain ⟨x', y', h⟩ := beside_loop H (.int r) beat r rfl ps acc (some (.d (.int p.1))) (some (.d (.int p.2))) (by omega)
      refine ⟨x', y', ?_⟩
      rw [forM_cons _ _ _ _ _ _ [some (.d H), some (.d (.int r)), some (.d beat), some (.ol (acc.map .int)), some (.d (.int p.1)), some (.d (.int p.2))] rfl (by simp [hp])]
      rw [h]
      simp [bsd, List.filter_cons, hp]
def side (h : Hs) (room beat : Int) : List Int := bsd (opn h beat) room
theorem opn_len (h : Hs) (b : Int) : (opn h b).length ≤ h.doors.length := by
  unfold opn
  rw [List.length_map]
  exact Nat.le_trans (List.length_filter_le _ _) (by simp)
theorem beside_ok {h : Hs} (k : HOk h) (room beat : Int) : WP.F_beside [eH h, .int room, .int beat] = M.ret (.lst ((isort (side h room beat)).map .int)) := by
  simp only [WP.F_beside, runB_ap, WP.b_beside]
  simp [open_doors_ok]
  obtain ⟨x', y', e⟩ := beside_loop (eH h) (.int room) (.int beat) room rfl (opn h beat) [] none none (by have := opn_len h beat; have := k.d.len; simp; omega)
  simp only [List.map_nil, List.nil_append] at e
  rw [e]
  simp [sort_ints, side]
theorem isort_eq {a b : List Int} (h : a.Perm b) : isort a = isort b := sorted_uniq (((isort_perm a).trans h).trans (isort_perm b).symm) (isort_sorted a) (isort_sorted b)
theorem add_ints (a b : List Int) (h : a.length + b.length ≤ 1000) : addM (.lst (a.map .int)) (.lst (b.map .int)) = M.ret (.lst ((a ++ b).map .int)) := by
  have e : a.length + b.length ≤ sizeLine := szn h
  simp [addM, e]
theorem bsd_len (ps : List P2) (r : Int) : (bsd ps r).length ≤ ps.length := by unfold bsd; rw [List.length_map]; exact List.length_filter_le _ _
theorem side_len {h : Hs} (k : HOk h) (r b : Int) : (side h r b).length ≤ 100 := Nat.le_trans (bsd_len _ _) (Nat.le_trans (opn_len h b) k.d.len)
theorem next_rooms_ok {h : Hs} (k : HOk h) {r b : Int} (h1 : 0 ≤ r) (h2 : r < h.rooms) (h3 : 0 ≤ b) (h4 : b ≤ h.last) : WP.F_next_rooms [eH h, .int r, .int b] = M.ret (.lst ((isort (r :: side h r b)).map .int)) := by
  have e := add_ints [r] (isort (side h r b)) (by have := side_len k r b; rw [(isort_perm _).length_eq]; simp; omega)
  rw [List.map_cons, List.map_nil] at e
  simp only [WP.F_next_rooms, runB_ap, WP.b_next_rooms]
  simp [look_house_ok k, look_room_ok h h1 h2, look_beat_ok h h3 h4, beside_ok k, e]
  have e2 := sort_ints (r :: isort (side h r b))
  rw [List.map_cons] at e2
  rw [e2, isort_eq ((isort_perm (side h r b)).cons r)]
  rfl
end WW
set_option maxHeartbeats 4000000
namespace WW
open PySem PySem.Spec L2
@[simp] theorem w_at_at : ((Str.ofString "at") == (Str.ofString "at")) = true := by decide +kernel
@[simp] theorem w_at_not : ((Str.ofString "at") == (Str.ofString "not")) = false := by decide +kernel
@[simp] theorem w_at_saw : ((Str.ofString "at") == (Str.ofString "saw")) = false := by decide +kernel
@[simp] theorem w_at_missed : ((Str.ofString "at") == (Str.ofString "missed")) = false := by decide +kernel
@[simp] theorem w_at_alone : ((Str.ofString "at") == (Str.ofString "alone")) = false := by decide +kernel
@[simp] theorem w_at_heard : ((Str.ofString "at") == (Str.ofString "heard")) = false := by decide +kernel
@[simp] theorem w_not_at : ((Str.ofString "not") == (Str.ofString "at")) = false := by decide +kernel
@[simp] theorem w_not_not : ((Str.ofString "not") == (Str.ofString "not")) = true := by decide +kernel
@[simp] theorem w_not_saw : ((Str.ofString "not") == (Str.ofString "saw")) = false := by decide +kernel
@[simp] theorem w_not_missed : ((Str.ofString "not") == (Str.ofString "missed")) = false := by decide +kernel
@[simp] theorem w_not_alone : ((Str.ofString "not") == (Str.ofString "alone")) = false := by decide +kernel
@[simp] theorem w_not_heard : ((Str.ofString "not") == (Str.ofString "heard")) = false := by decide +kernel
@[simp] theorem w_saw_at : ((Str.ofString "saw") == (Str.ofString "at")) = false := by decide +kernel
@[simp] theorem w_saw_not : ((Str.ofString "saw") == (Str.ofString "not")) = false := by decide +kernel
@[simp] theorem w_saw_saw : ((Str.ofString "saw") == (Str.ofString "saw")) = true := by decide +kernel
@[simp] theorem w_saw_missed : ((Str.ofString "saw") == (Str.ofString "missed")) = false := by decide +kernel
@[simp] theorem w_saw_alone : ((Str.ofString "saw") == (Str.ofString "alone")) = false := by decide +kernel
@[simp] theorem w_saw_heard : ((Str.ofString "saw") == (Str.ofString "heard")) = false := by decide +kernel
@[simp] theorem w_missed_at : ((Str.ofString "missed") == (Str.ofString "at")) = false := by decide +kernel
@[simp] theorem w_missed_not : ((Str.ofString "missed") == (Str.ofString "not")) = false := by decide +kernel
@[simp] theorem w_missed_saw : ((Str.ofString "missed") == (Str.ofString "saw")) = false := by decide +kernel
@[simp] theorem w_missed_missed : ((Str.ofString "missed") == (Str.ofString "missed")) = true := by decide +kernel
@[simp] theorem w_missed_alone : ((Str.ofString "missed") == (Str.ofString "alone")) = false := by decide +kernel
@[simp] theorem w_missed_heard : ((Str.ofString "missed") == (Str.ofString "heard")) = false := by decide +kernel
@[simp] theorem w_alone_at : ((Str.ofString "alone") == (Str.ofString "at")) = false := by decide +kernel
@[simp] theorem w_alone_not : ((Str.ofString "alone") == (Str.ofString "not")) = false := by decide +kernel
@[simp] theorem w_alone_saw : ((Str.ofString "alone") == (Str.ofString "saw")) = false := by decide +kernel
@[simp] theorem w_alone_missed : ((Str.ofString "alone") == (Str.ofString "missed")) = false := by decide +kernel
@[simp] theorem w_alone_alone : ((Str.ofString "alone") == (Str.ofString "alone")) = true := by decide +kernel
@[simp] theorem w_alone_heard : ((Str.ofString "alone") == (Str.ofString "heard")) = false := by decide +kernel
@[simp] theorem w_heard_at : ((Str.ofString "heard") == (Str.ofString "at")) = false := by decide +kernel
@[simp] theorem w_heard_not : ((Str.ofString "heard") == (Str.ofString "not")) = false := by decide +kernel
@[simp] theorem w_heard_saw : ((Str.ofString "heard") == (Str.ofString "saw")) = false := by decide +kernel
@[simp] theorem w_heard_missed : ((Str.ofString "heard") == (Str.ofString "missed")) = false := by decide +kernel
@[simp] theorem w_heard_alone : ((Str.ofString "heard") == (Str.ofString "alone")) = false := by decide +kernel
@[simp] theorem w_heard_heard : ((Str.ofString "heard") == (Str.ofString "heard")) = true := by decide +kernel
inductive Wd where
  | here | no | saw | missed | alone | heard
def Wd.s : Wd → Str
  | .here => "at" | .no => "not" | .saw => "saw" | .missed => "missed" | .alone => "alone" | .heard => "heard"
structure Cm where
  w : Wd
  who : Int
  beat : Int
  what : Int
def wh (c : Cm) : D := match c.w with
  | .alone => .non
  | .heard => .non
  | _ => .int c.what
def eC (c : Cm) : D := .tup [.str c.w.s, .int c.who, .int c.beat, wh c]
structure CmOk (h : Hs) (m : Int) (c : Cm) : Prop where
  w1 : 0 ≤ c.who
  w2 : c.who < m
  b1 : 0 ≤ c.beat
  b2 : c.beat ≤ h.last
  x : match c.w with
    | .here => 0 ≤ c.what ∧ c.what < h.rooms
    | .no => 0 ≤ c.what ∧ c.what < h.rooms
    | .saw => 0 ≤ c.what ∧ c.what < m ∧ c.what ≠ c.who
    | .missed => 0 ≤ c.what ∧ c.what < m ∧ c.what ≠ c.who
    | _ => True
def eS (st : List Int) : D := .tup (st.map .int)
structure StOk (h : Hs) (m : Int) (st : List Int) : Prop where
  len : (st.length : Int) = m
  rng : ∀ r ∈ st, 0 ≤ r ∧ r < h.rooms
@[simp] theorem len_eS (st : List Int) : lenM (eS st) = M.ret (.int st.length) := by simp [eS]
@[simp] theorem isi_eS (T : String) (st : List Int) : isiD T (eS st) = M.ret (.bl (T == "tuple")) := (rfl)
@[simp] theorem seq_eS (st : List Int) : seqM (eS st) = M.ret (st.map .int) := (rfl)
@[simp] theorem isi_eC (T : String) (c : Cm) : isiD T (eC c) = M.ret (.bl (T == "tuple")) := (rfl)
@[simp] theorem len_eC (c : Cm) : lenM (eC c) = M.ret (.int 4) := by simp [eC]
@[simp] theorem eC_0 (c : Cm) : ixM (eC c) (.int 0) = M.ret (.str c.w.s) := by simp [eC]
@[simp] theorem eC_1 (c : Cm) : ixM (eC c) (.int 1) = M.ret (.int c.who) := by simp [eC]
@[simp] theorem eC_2 (c : Cm) : ixM (eC c) (.int 2) = M.ret (.int c.beat) := by simp [eC]
@[simp] theorem eC_3 (c : Cm) : ixM (eC c) (.int 3) = M.ret (wh c) := by simp [eC]
theorem is_stand_ok {h : Hs} {m : Int} {st : List Int} (k : StOk h m st) : WP.F_is_stand [eH h, .int m, eS st] = M.ret (.bl true) := by
  simp only [WP.F_is_stand, runB_ap, WP.b_is_stand]
  simp [k.len]
  rw [lcM_all D.int (fun _ => .bl true) st fun r hr => ⟨_, rfl, by
    obtain ⟨h1, h2⟩ := k.rng r hr
    have e : r ≤ h.rooms - 1 := by omega
    simp [is_whole_i, h1, e]⟩]
  simp only [noX_ret, ret_bind, all_ret]
  simp
@[simp] theorem words_in (w : Wd) : inM true (.str w.s) (.tup WP.g_WORDS) = M.ret (.bl false) := by cases w <;> rfl
@[simp] theorem is_non (d : D) : isM false d .non = M.ret (.bl (isNon d)) := by
  cases d <;> rfl
theorem is_claim_ok {h : Hs} {m : Int} {c : Cm} (k : CmOk h m c) : WP.F_is_claim [eH h, .int m, eC c] = M.ret (.bl true) := by
  obtain ⟨w1, w2, b1, b2, x⟩ := k
  have e1 : c.who ≤ m - 1 := by omega
  obtain ⟨w, who, beat, what⟩ := c
  simp only at w1 w2 b1 b2 x e1
  simp only [WP.F_is_claim, runB_ap, WP.b_is_claim]
  have wi := fun w : Wd => words_in w
  cases w
  case here =>
    have e2 : what ≤ h.rooms - 1 := by have := x.2; omega
    have := wi .here
    simp only [Wd.s] at this
    simp [eC, Wd.s, wh, is_whole_i, w1, e1, b1, b2, x.1, e2, this]
  case no =>
    have e2 : what ≤ h.rooms - 1 := by have := x.2; omega
    have := wi .no
    simp only [Wd.s] at this
    simp [eC, Wd.s, wh, is_whole_i, w1, e1, b1, b2, x.1, e2, this]
  case saw =>
    have e2 : what ≤ m - 1 := by have := x.2.1; omega
    have := wi .saw
    have e3 : (what == who) = false := beq_eq_false_iff_ne.mpr x.2.2
    simp only [Wd.s] at this
    simp [eC, Wd.s, wh, is_whole_i, w1, e1, b1, b2, x.1, e2, e3, this]
  case missed =>
    have e2 : what ≤ m - 1 := by have := x.2.1; omega
    have := wi .missed
    have e3 : (what == who) = false := beq_eq_false_iff_ne.mpr x.2.2
    simp only [Wd.s] at this
    simp [eC, Wd.s, wh, is_whole_i, w1, e1, b1, b2, x.1, e2, e3, this]
  case alone =>
    have := wi .alone
    simp only [Wd.s] at this
    simp [eC, Wd.s, wh, is_whole_i, w1, e1, b1, b2, this, isNon]
  case heard =>
    have := wi .heard
    simp only [Wd.s] at this
    simp [eC, Wd.s, wh, is_whole_i, w1, e1, b1, b2, this, isNon]
def at_ (st : List Int) (i : Int) : Int := st.getD i.toNat 0
theorem ix_stand {st : List Int} {i : Int} (h1 : 0 ≤ i) (h2 : i < st.length) : ixM (eS st) (.int i) = M.ret (.int (at_ st i)) := by
  have lt : i.toNat < st.length := by omega
  refine ix_tup_ (k := i.toNat) (by omega) ?_
  rw [List.getElem?_map, List.getElem?_eq_getElem lt]
  simp [at_, lt]
theorem ok_ints (xs : List Int) (n : Nat) : okDs (xs.map D.int) n = true := okDs_map _ _ (fun _ => okD_int _ _) xs
theorem in_ints (neg : Bool) (x : Int) (ys : List Int) : inM neg (.int x) (.lst (ys.map .int)) = M.ret (.bl (xor neg (decide (x ∈ ys)))) := by
  have e : ((ys.map D.int).any fun z => eqB z (.int x)) = decide (x ∈ ys) := by
    rw [List.any_map]
    simp only [Function.comp_def, eqB_ii]
    by_cases h : x ∈ ys
    · rw [decide_eq_true h]; exact List.any_eq_true.mpr ⟨x, h, by simp⟩
    · rw [decide_eq_false h]; exact List.any_eq_false.mpr fun y hy z => h (by rw [← eq_of_beq z]; exact hy)
  simp [inM, ok_ints, e]
/-- where the others are -/
def others (st : List Int) (who : Int) : List Int := ((List.range st.length).filter fun (k : Nat) => !((k : Int) == who)).map fun (k : Nat) => at_ st (k : Int)
def holdsB (h : Hs) (st : List Int) (c : Cm) : Bool :=
  let r := at_ st c.who
  match c.w with
  | .here => r == c.what
  | .no => !(r == c.what)
  | .saw => (at_ st c.what == r) && !decide ((c.beat, r) ∈ h.dark)
  | .missed => !(at_ st c.what == r)
  | .alone => !decide (r ∈ others st c.who)
  | .heard => (side h r c.beat).any fun x => decide (x ∈ others st c.who)
theorem any_perm {a b : List Int} (h : a.Perm b) (p : Int → Bool) : a.any p = b.any p := by
  apply Bool.eq_iff_iff.mpr
  simp only [List.any_eq_true]
  exact ⟨fun ⟨x, h1, h2⟩ => ⟨x, h.mem_iff.mp h1, h2⟩, fun ⟨x, h1, h2⟩ => ⟨x, h.mem_iff.mpr h1, h2⟩⟩
theorem others_lc {ρ0 : En} {st : List Int} {who : Int} (h1 : ρ0[1]? = some (some (.d (eS st)))) (h6 : ρ0[6]? = some (some (.d (.int who)))) (h9 : 9 < ρ0.length) :
    lcM ρ0 (bName 9) (tVal (d2 neM (dVar 9) (dVar 6))) (d2 ixM (dVar 1) (dVar 9)) ((List.range st.length).map fun k : Nat => D.int (k : Int)) = M.ret ((others st who).map .int) := by
  rw [lcM_pure (fun k : Nat => D.int (k : Int)) (fun k => !((k : Int) == who)) (fun k : Nat => .int (at_ st (k : Int))) (List.range st.length) fun k hk => ⟨_, rfl, by
      simp [List.getElem?_set_self h9, List.getElem?_set_ne, h6], fun _ => by
      have e := ix_stand (st := st) (i := (k : Int)) (by omega) (by have := List.mem_range.mp hk; omega)
      simp [List.getElem?_set_self h9, List.getElem?_set_ne, h1, e]⟩]
  simp [others, List.map_map, Function.comp_def]
end WW
set_option maxHeartbeats 4000000
namespace WW
open PySem PySem.Spec L2
theorem holds_ok {h : Hs} (hk : HOk h) {m : Int} {st : List Int} {c : Cm} (sk : StOk h m st) (hm : m ≤ 4) (k : CmOk h m c) : WP.F_holds [eH h, eS st, eC c] = M.ret (.bl (holdsB h st c)) := by
  obtain ⟨w1, w2, b1, b2, x⟩ := k
  obtain ⟨w, who, beat, what⟩ := c
  simp only at w1 w2 b1 b2 x
  have sl := sk.len
  have l1 := ix_stand (st := st) w1 (by omega)
  simp only [WP.F_holds, runB_ap, WP.b_holds]
  cases w
  case here => simp [eC, Wd.s, wh, l1, holdsB]
  case no => simp [eC, Wd.s, wh, l1, holdsB]
  case saw =>
    have l2 := ix_stand (st := st) (i := what) x.1 (by omega)
    simp [eC, Wd.s, wh, l1, l2, holdsB]
    by_cases hq : at_ st what = at_ st who
    · simp [hq]
    · have h2 : (at_ st what == at_ st who) = false := beq_eq_false_iff_ne.mpr hq
      simp [hq, h2]
  case missed =>
    have l2 := ix_stand (st := st) (i := what) x.1 (by omega)
    simp [eC, Wd.s, wh, l1, l2, holdsB]
  case alone =>
    have r1 := rng1_ret (j := (st.length : Int)) (by omega) (by omega)
    simp [eC, Wd.s, wh, l1, r1]
    rw [others_lc (st := st) (who := who) (by rfl) (by rfl) (by simp)]
    simp [in_ints, holdsB]
  case heard =>
    have r1 := rng1_ret (j := (st.length : Int)) (by omega) (by omega)
    simp [eC, Wd.s, wh, l1, r1]
    rw [others_lc (st := st) (who := who) (by rfl) (by rfl) (by simp)]
    simp [beside_ok hk]
    rw [lcM_all D.int (fun x => .bl (decide (x ∈ others st who))) _ fun r hr => ⟨_, rfl, by simp [in_ints]⟩]
    simp only [noX_ret, ret_bind, any_ret]
    rw [any_perm (isort_perm _)]
    simp [holdsB]
theorem is_so_ok {h : Hs} (hk : HOk h) {m : Int} {st : List Int} {c : Cm} (sk : StOk h m st) (h1 : 1 ≤ m) (hm : m ≤ 4) (k : CmOk h m c) : WP.F_is_so [eH h, .int m, eS st, eC c] = M.ret (.bl (holdsB h st c)) := by
  simp only [WP.F_is_so, runB_ap, WP.b_is_so]
  simp [look_house_ok hk h1 hm, is_stand_ok sk, is_claim_ok k, holds_ok hk sk hm k]
end WW
set_option maxHeartbeats 4000000
namespace WW
open PySem PySem.Spec L2
theorem law_is_ok (a b : Bool) : WP.F__law_is [.bl a, .bl b] = M.ret (.bl (a == b)) := by
  simp only [WP.F__law_is, runB_ap, WP.b__law_is]
  simp [eq_ret]
theorem zip_range (ps : List P2) : ps.zipIdx = (List.range ps.length).map fun k => (ps.getD k (0, 0), k) := by
  apply List.ext_getElem?
  intro i
  rw [List.getElem?_zipIdx, List.getElem?_map]
  by_cases h : i < ps.length
  · rw [List.getElem?_eq_getElem h, List.getElem?_range h]
    simp [h]
  · rw [List.getElem?_eq_none (by omega), List.getElem?_eq_none (by simp; omega)]
    rfl
def stepS (h : Hs) (room beat : Int) (k : Nat) : Option Int :=
  let p := h.doors.getD k (0, 0)
  if !decide ((beat, (k : Int)) ∈ h.shut) && (p.1 == room || p.2 == room) then some (p.1 + p.2 - room) else none
theorem side_fm0 (h : Hs) (room beat : Int) : ∀ ks : List Nat, bsd (((ks.map fun k => (h.doors.getD k (0, 0), k)).filter fun q => !decide ((beat, (q.2 : Int)) ∈ h.shut)).map (·.1)) room = ks.filterMap (stepS h room beat)
  | [] => rfl
  | k :: ks => by
    have ih := side_fm0 h room beat ks
    rw [List.filterMap_cons, List.map_cons, List.filter_cons]
    by_cases h1 : (beat, (k : Int)) ∈ h.shut
    · rw [if_neg (by simp [h1]), ih]
      simp [stepS, h1]
    · rw [if_pos (by simp [h1]), List.map_cons]
      cases hp : ((h.doors.getD k (0, 0)).1 == room || (h.doors.getD k (0, 0)).2 == room) with
      | true =>
        have e : stepS h room beat k = some ((h.doors.getD k (0, 0)).1 + (h.doors.getD k (0, 0)).2 - room) := by
          unfold stepS
          rw [if_pos (by rw [hp]; simp [h1])]
        rw [e]
        show _ = _ :: ks.filterMap (stepS h room beat)
        rw [← ih]
        unfold bsd
        rw [List.filter_cons, if_pos hp, List.map_cons]
      | false =>
        have e : stepS h room beat k = none := by
          unfold stepS
          rw [if_neg (by rw [hp]; simp)]
        rw [e]
        show _ = ks.filterMap (stepS h room beat)
        rw [← ih]
        unfold bsd
        rw [List.filter_cons, if_neg (by rw [hp]; simp)]
theorem side_fm (h : Hs) (room beat : Int) : side h room beat = (List.range h.doors.length).filterMap (stepS h room beat) := by
  unfold side opn
  rw [zip_range, side_fm0]
@[simp] theorem ix_doors {xs : List P2} {k : Nat} (h : k < xs.length) : ixM (ePs xs) (.int (k : Int)) = M.ret (eP (xs.getD k (0, 0))) := ix_tup_ rfl (by simp [h])
theorem side_loop (h : Hs) (room beat : Int) : ∀ (ks : List Nat) (acc : List Int) (x y z : Option SV), (∀ k ∈ ks, k < h.doors.length) → acc.length + ks.length ≤ 100 → ∃ x' y' z', forM (bName 4) (sSeq (sUnp [5, 6] (d2 ixM (d2 ixM (dVar 0) (dC (.int 1))) (dVar 4)))
      (sIf (tAndX (tVal (d2 (inM true) (dTup [(dVar 2), (dVar 4)]) (d2 ixM (dVar 0) (dC (.int 3))))) (tVal (d2 (inM false) (dVar 1) (dTup [(dVar 5), (dVar 6)])))) (sApp 3 (d2 subM (d2 addM (dVar 5) (dVar 6)) (dVar 1))) sNil)) (ks.map fun k : Nat => D.int (k : Int))
      [some (.d (eH h)), some (.d (.int room)), some (.d (.int beat)), some (.ol (acc.map .int)), x, y, z] = M.ret (.nx [some (.d (eH h)), some (.d (.int room)), some (.d (.int beat)), some (.ol ((acc ++ ks.filterMap (stepS h room beat)).map .int)), x', y', z'])
  | [], acc, x, y, z, _, _ => ⟨x, y, z, by simp⟩
  | k :: ks, acc, x, y, z, hk, hl => by
    rw [List.length_cons] at hl
    rw [List.map_cons, List.filterMap_cons]
    have lt := hk k List.mem_cons_self
    have di := ix_doors (xs := h.doors) lt
    generalize hp : h.doors.getD k (0, 0) = p at di
    cases hs : stepS h room beat k with
    | some v =>
      obtain ⟨x', y', z', e⟩ := side_loop h room beat ks (acc ++ [v]) (some (.d (.int (k : Int)))) (some (.d (.int p.1))) (some (.d (.int p.2))) (fun k hk' => hk k (List.mem_cons_of_mem _ hk')) (by simp; omega)
      refine ⟨x', y', z', ?_⟩
      unfold stepS at hs
      rw [hp] at hs
      dsimp only at hs
      have hv : ((beat, (k : Int)) ∉ h.shut) ∧ (p.1 = room ∨ p.2 = room) ∧ p.1 + p.2 - room = v := by
        split at hs
        · rename_i c
          simp at c
          cases hs
          exact ⟨c.1, c.2, rfl⟩
        · cases hs
      obtain ⟨h1, h2, h3⟩ := hv
      have h2' : (p.1 == room || p.2 == room) = true := by simpa using h2
      rw [forM_cons _ _ _ _ _ _ [some (.d (eH h)), some (.d (.int room)), some (.d (.int beat)), some (.ol ((acc ++ [v]).map .int)), some (.d (.int (k : Int))), some (.d (.int p.1)), some (.d (.int p.2))] rfl (by
        simp [di, eP, h1, h2']
        rw [app_ret 3 _ _ (acc.map .int) (.int v) rfl (by simp [h3]) (by simp; omega)]
        simp)]
      rw [e]
      simp
    | none =>
      obtain ⟨x', y', z', e⟩ := side_loop h room beat ks acc (some (.d (.int (k : Int)))) (some (.d (.int p.1))) (some (.d (.int p.2))) (fun k hk' => hk k (List.mem_cons_of_mem _ hk')) (by omega)
      refine ⟨x', y', z', ?_⟩
      unfold stepS at hs
      rw [hp] at hs
      dsimp only at hs
      have hv : ((beat, (k : Int)) ∈ h.shut) ∨ ((p.1 == room || p.2 == room) = false) := by
        split at hs
        · cases hs
        · rename_i c
          by_cases h1 : (beat, (k : Int)) ∈ h.shut
          · exact .inl h1
          · refine .inr ?_
            cases q : (p.1 == room || p.2 == room) with
            | false => rfl
            | true => exact absurd (by simp [h1]; simpa using q) c
      rw [forM_cons _ _ _ _ _ _ [some (.d (eH h)), some (.d (.int room)), some (.d (.int beat)), some (.ol (acc.map .int)), some (.d (.int (k : Int))), some (.d (.int p.1)), some (.d (.int p.2))] rfl (by
        rcases hv with h1 | h1
        · simp [di, eP, h1]
        · by_cases h2 : (beat, (k : Int)) ∈ h.shut <;> simp [di, eP, h1, h2])]
      rw [e]
theorem law_side_ok {h : Hs} (k : HOk h) (room beat : Int) : WP.F__law_side [eH h, .int room, .int beat] = M.ret (.lst ((side h room beat).map .int)) := by
  have hl := k.d.len
  have r1 := rng1_ret (j := (h.doors.length : Int)) (by omega) (by omega)
  simp only [WP.F__law_side, runB_ap, WP.b__law_side]
  simp [r1]
  obtain ⟨x', y', z', e⟩ := side_loop h room beat (List.range h.doors.length) [] none none none (fun k hk => List.mem_range.mp hk) (by simp; omega)
  simp only [List.map_nil, List.nil_append] at e
  rw [e]
  simp [side_fm]
theorem law_so_ok {h : Hs} (hk : HOk h) {m : Int} {st : List Int} {c : Cm} (sk : StOk h m st) (hm : m ≤ 4) (k : CmOk h m c) : WP.F__law_so [eH h, eS st, eC c] = M.ret (.bl (holdsB h st c)) := by
  obtain ⟨w1, w2, b1, b2, x⟩ := k
  obtain ⟨w, who, beat, what⟩ := c
  simp only at w1 w2 b1 b2 x
  have sl := sk.len
  have l1 := ix_stand (st := st) w1 (by omega)
  simp only [WP.F__law_so, runB_ap, WP.b__law_so]
  cases w
  case here => simp [eC, Wd.s, wh, l1, holdsB]
  case no => simp [eC, Wd.s, wh, l1, holdsB]
  case saw =>
    have l2 := ix_stand (st := st) (i := what) x.1 (by omega)
    simp [eC, Wd.s, wh, l1, l2, holdsB]
    by_cases hq : at_ st what = at_ st who
    · simp [hq]
    · have h2 : (at_ st what == at_ st who) = false := beq_eq_false_iff_ne.mpr hq
      simp [hq, h2]
  case missed =>
    have l2 := ix_stand (st := st) (i := what) x.1 (by omega)
    simp [eC, Wd.s, wh, l1, l2, holdsB]
  case alone =>
    have r1 := rng1_ret (j := (st.length : Int)) (by omega) (by omega)
    simp [eC, Wd.s, wh, l1, r1]
    rw [others_lc (st := st) (who := who) (by rfl) (by rfl) (by simp)]
    simp [in_ints, holdsB]
  case heard =>
    have r1 := rng1_ret (j := (st.length : Int)) (by omega) (by omega)
    simp [eC, Wd.s, wh, l1, r1]
    rw [others_lc (st := st) (who := who) (by rfl) (by rfl) (by simp)]
    simp [law_side_ok hk]
    rw [lcM_pure D.int (fun x => decide (x ∈ others st who)) D.int _ fun r hr => ⟨_, rfl, by simp [in_ints], by simp⟩]
    simp
    have e : ∀ ys : List Int, neM (.lst (ys.map D.int)) (.lst []) = M.ret (.bl (!ys.isEmpty)) := fun ys => by
      cases ys with
      | nil => rfl
      | cons y ys => rw [ne_ret (by simp [ok_ints]) rfl]; rfl
    rw [e]
    simp only [ret_bind, end_rt, holdsB]
    have e2 : ∀ zs : List Int, (!(zs.filter fun x => decide (x ∈ others st who)).isEmpty) = (zs.any fun x => decide (x ∈ others st who)) := fun zs => by
      cases q : zs.any fun x => decide (x ∈ others st who) with
      | true =>
        obtain ⟨y, hy, hy2⟩ := List.any_eq_true.mp q
        have : y ∈ zs.filter fun x => decide (x ∈ others st who) := List.mem_filter.mpr ⟨hy, hy2⟩
        cases q2 : zs.filter fun x => decide (x ∈ others st who) with
        | nil => rw [q2] at this; cases this
        | cons _ _ => rfl
      | false =>
        have : zs.filter (fun x => decide (x ∈ others st who)) = [] := List.filter_eq_nil_iff.mpr fun y hy z => List.any_eq_false.mp q y hy z
        rw [this]; rfl
    rw [e2]
end WW
set_option maxHeartbeats 4000000
namespace WW
open PySem PySem.Spec L2
/-- the store in a law without desks -/
def Vt (T : List Cell) : Prop := ∃ ns k, T = [.town ns k] ∧ ns ≠ []
/-- it ends well, and so -/
def Ok {α : Type} (x : M α) (P : α → Prop) : Prop := ∀ T, Vt T → ∃ a T', x T = .ok a T' ∧ Vt T' ∧ P a
section
variable {α β : Type} {P Q : α → Prop} {R : β → Prop} {x : M α} {f : α → M β}
theorem Ok.ret {a : α} (h : P a) : Ok (M.ret a) P := fun T v => ⟨a, T, rfl, v, h⟩
theorem Ok.bind (h : Ok x P) (hf : ∀ a, P a → Ok (f a) R) : Ok (x >>= f) R := fun T v => by
  obtain ⟨a, T1, h1, v1, p⟩ := h T v
  obtain ⟨b, T2, h2, v2, q⟩ := hf a p T1 v1
  exact ⟨b, T2, by rw [bnd_ok h1]; exact h2, v2, q⟩
theorem Ok.mono (h : Ok x P) (i : ∀ a, P a → Q a) : Ok x Q := fun T v => by
  obtain ⟨a, T1, h1, v1, p⟩ := h T v
  exact ⟨a, T1, h1, v1, i a p⟩
theorem Ok.noX (h : Ok x P) : Ok (WW.noX x) P := fun T v => by
  obtain ⟨a, T1, h1, v1, p⟩ := h T v
  exact ⟨a, T1, by unfold WW.noX; rw [h1], v1, p⟩
theorem Ok.draw {n : Int} (h : 0 < n) (h2 : n < 1073741824) : Ok (drawM [.cell 0, .int n]) fun d => ∃ r, d = .int r ∧ 0 ≤ r ∧ r < n := fun T v => by
  obtain ⟨ns, k, rfl, hne⟩ := v
  have lp : (0 : Int) < (ns.length : Int) := by cases ns with | nil => exact absurd rfl hne | cons _ _ => simp
  have lt : ((k + 1) % (ns.length : Int)).toNat < ns.length := by
    have a1 := Int.emod_nonneg (k + 1) (show (ns.length : Int) ≠ 0 by omega)
    have a2 := Int.emod_lt_of_pos (k + 1) lp
    omega
  have key : ∃ r ns', drawStep ns k n = some (r, ns') ∧ ns' ≠ [] ∧ 0 ≤ r ∧ r < n := by
    unfold drawStep
    simp only [List.getElem?_eq_getElem lt]
    split
    · refine ⟨_, _, rfl, ?_, Int.emod_nonneg _ (by omega), Int.emod_lt_of_pos _ h⟩
      intro z
      have := congrArg List.length z
      rw [List.length_set] at this
      simp at this
      exact hne this
    · exact ⟨_, _, rfl, hne, Int.emod_nonneg _ (by omega), Int.emod_lt_of_pos _ h⟩
  obtain ⟨r, ns', h3, h4, h5, h6⟩ := key
  refine ⟨.int r, [.town ns' (k + 1)], ?_, ⟨ns', k + 1, rfl, h4⟩, r, rfl, h5, h6⟩
  show (if 0 < n ∧ n < 1073741824 then (match drawStep ns k n with | some (r, ns') => Rs.ok (D.int r) ([Cell.town ns k].set 0 (.town ns' (k + 1))) | none => .bad) else .bad) = _
  rw [if_pos ⟨h, h2⟩, h3]
  rfl
end
/-- ys belong to some of the zs -/
inductive Some2 {ι : Type} (p : ι → D → Prop) : List ι → List D → Prop
  | nil : Some2 p [] []
  | skip {z zs ys} : Some2 p zs ys → Some2 p (z :: zs) ys
  | take {z zs y ys} : p z y → Some2 p zs ys → Some2 p (z :: zs) (y :: ys)
theorem Ok.lc {ι : Type} {ρ0 : En} {b : Bd} {t : Tx} {el : Ex} (enc : ι → D) (p : ι → D → Prop) : ∀ (xs : List ι), (∀ x ∈ xs, ∃ ρ, b (enc x) ρ0 = some ρ ∧ Ok (t ρ) (fun _ => True) ∧ Ok (el ρ) (p x)) → Ok (lcM ρ0 b t el (xs.map enc)) (Some2 p xs)
  | [], _ => Ok.ret .nil
  | x :: xs, h => by
    obtain ⟨ρ, h1, h2, h3⟩ := h x List.mem_cons_self
    have ih := Ok.lc (ρ0 := ρ0) (b := b) (t := t) (el := el) enc p xs fun y hy => h y (List.mem_cons_of_mem _ hy)
    rw [List.map_cons]
    unfold lcM
    rw [h1]
    refine Ok.bind h2 fun z _ => ?_
    cases z with
    | true => exact Ok.bind h3 fun y hy => Ok.bind ih fun ys hys => Ok.ret (.take hy hys)
    | false => exact ih.mono fun ys hys => .skip hys
/-- all of them -/
inductive All2 {ι : Type} (p : ι → D → Prop) : List ι → List D → Prop
  | nil : All2 p [] []
  | take {z zs y ys} : p z y → All2 p zs ys → All2 p (z :: zs) (y :: ys)
theorem Ok.lcA {ι : Type} {ρ0 : En} {b : Bd} {el : Ex} (enc : ι → D) (p : ι → D → Prop) : ∀ (xs : List ι), (∀ x ∈ xs, ∃ ρ, b (enc x) ρ0 = some ρ ∧ Ok (el ρ) (p x)) → Ok (lcM ρ0 b tAll el (xs.map enc)) (All2 p xs)
  | [], _ => Ok.ret .nil
  | x :: xs, h => by
    obtain ⟨ρ, h1, h3⟩ := h x List.mem_cons_self
    have ih := Ok.lcA (ρ0 := ρ0) (b := b) (el := el) enc p xs fun y hy => h y (List.mem_cons_of_mem _ hy)
    rw [List.map_cons]
    unfold lcM
    rw [h1]
    simp only [ap_all, ret_bind, if_true]
    exact Ok.bind h3 fun y hy => Ok.bind ih fun ys hys => Ok.ret (.take hy hys)
theorem forM_step (b : Bd) (body : Sx) (x : D) (xs : List D) (ρ ρ1 : En) (h1 : b x ρ = some ρ1) : forM b body (x :: xs) ρ = (body ρ1 >>= fun fl => match fl with | .nx ρ2 => forM b body xs ρ2 | .ct ρ2 => forM b body xs ρ2 | .bk ρ2 => M.ret (.nx ρ2) | .rt d => M.ret (.rt d)) := by
  show (match b x ρ with | none => M.fail | some ρ1 => body ρ1 >>= fun fl => match fl with | .nx ρ2 => forM b body xs ρ2 | .ct ρ2 => forM b body xs ρ2 | .bk ρ2 => M.ret (.nx ρ2) | .rt d => M.ret (.rt d)) = _
  rw [h1]
theorem Ok.for {ι : Type} {b : Bd} {body : Sx} (enc : ι → D) (I : Nat → En → Prop) : ∀ (xs : List ι) (j : Nat) (ρ : En), (∀ i x ρ, xs[i]? = some x → I (j + i) ρ → ∃ ρ1, b (enc x) ρ = some ρ1 ∧ Ok (body ρ1) (fun fl => ∃ ρ2, fl = .nx ρ2 ∧ I (j + i + 1) ρ2)) → I j ρ →
    Ok (forM b body (xs.map enc) ρ) (fun fl => ∃ ρ2, fl = .nx ρ2 ∧ I (j + xs.length) ρ2)
  | [], j, ρ, _, h0 => Ok.ret ⟨ρ, rfl, by simpa using h0⟩
  | x :: xs, j, ρ, h, h0 => by
    obtain ⟨ρ1, h1, h2⟩ := h 0 x ρ rfl (by simpa using h0)
    rw [List.map_cons, forM_step _ _ _ _ _ _ h1]
    refine Ok.bind h2 fun fl ⟨ρ2, e, h3⟩ => ?_
    subst e
    have ih := Ok.for (b := b) (body := body) enc I xs (j + 1) ρ2 (fun i y ρ hy hi => by
      have q := h (i + 1) y ρ (by simpa using hy) (by rw [show j + (i + 1) = j + 1 + i by omega]; exact hi)
      rw [show j + (i + 1) + 1 = j + 1 + i + 1 by omega] at q
      exact q) (by simpa using h3)
    rw [show j + (x :: xs).length = j + 1 + xs.length by simp; omega]
    exact ih
def psort (ps : List P2) : List P2 := (tsort (ps.map fun p => [p.1, p.2])).map fun l => (l.getD 0 0, l.getD 1 0)
theorem tups_eP : ∀ ps : List P2, tupsOf (ps.map eP) = some (ps.map fun p => [p.1, p.2])
  | [] => rfl
  | p :: ps => by
    show (match intsOf [.int p.1, .int p.2], tupsOf (ps.map eP) with | some ns, some t => some (ns :: t) | _, _ => none) = _
    rw [tups_eP ps]
    rfl
theorem psort_map (ps : List P2) : (psort ps).map (fun p => [p.1, p.2]) = tsort (ps.map fun p => [p.1, p.2]) := by
  unfold psort
  rw [List.map_map]
  have h : ∀ l ∈ tsort (ps.map fun p => [p.1, p.2]), ((fun p : P2 => [p.1, p.2]) ∘ fun l : List Int => (l.getD 0 0, l.getD 1 0)) l = l := fun l hl => by
    have := (tsort_perm _).mem_iff.mp hl
    obtain ⟨p, _, rfl⟩ := List.mem_map.mp this
    rfl
  exact (List.map_congr_left h).trans (List.map_id _)
theorem psort_perm (ps : List P2) : (psort ps).Perm ps := by
  have h := (tsort_perm (ps.map fun p : P2 => [p.1, p.2])).map (fun l : List Int => (l.getD 0 0, l.getD 1 0))
  rw [List.map_map] at h
  have e : ((fun l : List Int => (l.getD 0 0, l.getD 1 0)) ∘ fun p : P2 => [p.1, p.2]) = id := by funext p; rfl
  rw [e, List.map_id] at h
  exact h
theorem sort_pairs (ps : List P2) : sortM (.lst (ps.map eP)) = M.ret ((psort ps).map eP) := by
  cases ps with
  | nil => simp [psort, tsort, sortM, intsOf, isort]
  | cons p ps =>
    show (match intsOf ((p :: ps).map eP) with | some ns => M.ret ((isort ns).map D.int) | none => (match tupsOf ((p :: ps).map eP) with | some t => if 2 ≤ t.length → ∀ ns ∈ t, ns ≠ [] then M.ret ((tsort t).map tupI) else M.fail | none => M.fail)) = _
    rw [tups_eP]
    show (if _ then _ else _) = _
    rw [if_pos (fun _ ns hns => by obtain ⟨q, _, rfl⟩ := List.mem_map.mp hns; simp)]
    rw [← psort_map, List.map_map]
    rfl
theorem ltP_lex (p q : P2) : ltP p q = HT.lexLt [p.1, p.2] [q.1, q.2] := by
  simp only [HT.lexLt, ltP]
  by_cases h1 : p.1 = q.1
  · simp [h1]; omega
  · simp [h1]
theorem psort_inc {ps : List P2} (h : ps.Nodup) : (psort ps).Pairwise fun p q => ltP p q = true := by
  have h1 : (psort ps).Pairwise fun p q => lexLe [p.1, p.2] [q.1, q.2] = true := by
    have := tsort_sorted (ps.map fun p => [p.1, p.2])
    rw [← psort_map, List.pairwise_map] at this
    exact this
  have h2 : (psort ps).Nodup := (psort_perm ps).nodup_iff.mpr h
  refine (h1.and h2).imp fun {p q} ⟨a, b⟩ => ?_
  rw [ltP_lex]
  cases e : HT.lexLt [p.1, p.2] [q.1, q.2] with
  | true => rfl
  | false =>
    have e2 : lexLe [q.1, q.2] [p.1, p.2] = true := by unfold lexLe; rw [e]; rfl
    have e3 := lexLe_anti a e2
    simp at e3
    exact absurd (Prod.ext e3.1 e3.2) b
end WW
set_option maxHeartbeats 4000000
namespace WW
open PySem PySem.Spec L2
theorem some2_pairs {f : Nat → P2} {n : Nat} {ys : List D} (h : Some2 (fun k d => d = eP (f k)) (List.range n) ys) : ∃ zs : List Nat, zs.Sublist (List.range n) ∧ ys = (zs.map f).map eP := by
  generalize List.range n = xs at h
  induction h with
  | nil => exact ⟨[], .slnil, rfl⟩
  | skip _ ih =>
    obtain ⟨zs, h1, h2⟩ := ih
    exact ⟨zs, h1.cons _, h2⟩
  | take hp _ ih =>
    obtain ⟨zs, h1, h2⟩ := ih
    exact ⟨_ :: zs, h1.cons₂ _, by rw [h2, hp]; rfl⟩
theorem range_inc (n : Nat) : (List.range n).Pairwise (· < ·) := List.pairwise_lt_range
theorem add_pairs (a b : List P2) (h : a.length + b.length ≤ 1000) : addM (.lst (a.map eP)) (.lst (b.map eP)) = M.ret (.lst ((a ++ b).map eP)) := by
  have e : a.length + b.length ≤ sizeLine := szn h
  simp [addM, e]
/-- the pairs that lie in beats before i, for n things -/
structure Marks (xs : List P2) (i : Nat) (n : Int) : Prop where
  rng : ∀ p ∈ xs, 0 ≤ p.1 ∧ p.1 < i ∧ 0 ≤ p.2 ∧ p.2 < n
  inc : xs.Pairwise fun p q => ltP p q = true
  len : xs.length ≤ i * 6
theorem Marks.nil (n : Int) : Marks [] 0 n := ⟨fun p h => absurd h (by simp), .nil, Nat.le_refl _⟩
theorem Marks.step {xs : List P2} {i : Nat} {n : Nat} (h : Marks xs i n) (hn : n ≤ 6) {zs : List Nat} (hz : zs.Sublist (List.range n)) : Marks (xs ++ zs.map fun (k : Nat) => ((i : Int), (k : Int))) (i + 1) n := by
  refine ⟨fun p hp => ?_, ?_, ?_⟩
  · rcases List.mem_append.mp hp with hp | hp
    · obtain ⟨a, b, c, d⟩ := h.rng p hp
      exact ⟨a, by omega, c, d⟩
    · obtain ⟨k, hk, rfl⟩ := List.mem_map.mp hp
      have := List.mem_range.mp (hz.subset hk)
      exact ⟨by show (0 : Int) ≤ i; omega, by show (i : Int) < ((i + 1 : Nat) : Int); omega, by show (0 : Int) ≤ k; omega, by show (k : Int) < n; omega⟩
  · refine List.pairwise_append.mpr ⟨h.inc, ?_, fun p hp q hq => ?_⟩
    · rw [List.pairwise_map]
      exact ((range_inc n).sublist hz).imp fun {a b} hab => by simp [ltP]; omega
    · obtain ⟨k, hk, rfl⟩ := List.mem_map.mp hq
      obtain ⟨a, b, c, d⟩ := h.rng p hp
      unfold ltP
      exact decide_eq_true (.inl b)
  · rw [List.length_append, List.length_map]
    have h1 := h.len
    have h2 := hz.length_le
    rw [List.length_range] at h2
    have : (i + 1) * 6 = i * 6 + 6 := by omega
    omega
theorem Marks.pairs {xs : List P2} {i : Nat} {n m : Int} (h : Marks xs i n) (hm : m = i) (hi : i ≤ 13) : PairsOk xs m n := ⟨by rw [hm]; exact h.rng, h.inc, by have := h.len; omega⟩
structure DoorsOk (ps : List P2) (R : Int) : Prop where
  nd : ps.Nodup
  rng : ∀ p ∈ ps, 0 ≤ p.1 ∧ p.1 < p.2 ∧ p.2 < R
  len : ps.length ≤ 6
theorem chain_doors {R : Int} (r1 : 1 ≤ R) (r2 : R ≤ 6) {zs : List Nat} (hz : zs.Sublist (List.range (R - 1).toNat)) : DoorsOk (zs.map fun k : Nat => ((k : Int), (k : Int) + 1)) R ∧ zs.length ≤ 5 ∧ ∀ p ∈ (zs.map fun k : Nat => ((k : Int), (k : Int) + 1)), p.2 = p.1 + 1 := by
  have hl := hz.length_le
  rw [List.length_range] at hl
  refine ⟨⟨?_, fun p hp => ?_, by rw [List.length_map]; omega⟩, by omega, fun p hp => ?_⟩
  · have : zs.Pairwise (· < ·) := (range_inc _).sublist hz
    unfold List.Nodup
    rw [List.pairwise_map]
    exact this.imp fun {a b} hab => by simp; omega
  · obtain ⟨k, hk, rfl⟩ := List.mem_map.mp hp
    have := List.mem_range.mp (hz.subset hk)
    exact ⟨by show (0 : Int) ≤ k; omega, by show (k : Int) < k + 1; omega, by show (k : Int) + 1 < R; omega⟩
  · obtain ⟨k, hk, rfl⟩ := List.mem_map.mp hp
    rfl
theorem DoorsOk.pairs {ps : List P2} {R : Int} (h : DoorsOk ps R) : PairsOk (psort ps) R R ∧ (∀ p ∈ psort ps, p.1 < p.2) ∧ (psort ps).length ≤ 6 := by
  have pm := psort_perm ps
  refine ⟨⟨fun p hp => ?_, psort_inc h.nd, by rw [pm.length_eq]; have := h.len; omega⟩, fun p hp => (h.rng p (pm.mem_iff.mp hp)).2.1, by rw [pm.length_eq]; exact h.len⟩
  obtain ⟨a, b, d⟩ := h.rng p (pm.mem_iff.mp hp)
  exact ⟨a, by omega, by omega, d⟩
theorem law_house_ok {R L : Int} (r1 : 1 ≤ R) (r2 : R ≤ 6) (l1 : 0 ≤ L) (l2 : L ≤ 12) : Ok (WP.F__law_house [.cell 0, .int R, .int L]) fun d => ∃ h, d = eH h ∧ HOk h ∧ h.rooms = R ∧ h.last = L := by
  simp only [WP.F__law_house, runB_ap, WP.b__law_house]
  simp
  rw [rng1_ret (by omega) (by omega)]
  simp only [ret_bind]
  refine Ok.bind (Ok.noX (Ok.lc (fun k : Nat => D.int (k : Int)) (fun k d => d = eP ((k : Int), (k : Int) + 1)) _ fun k hk => ⟨_, rfl, ?_, ?_⟩)) fun ys hys => ?_
  · simp
    exact Ok.bind (Ok.draw (by omega) (by omega)) fun d ⟨r, e, _, _⟩ => by subst e; exact Ok.ret trivial
  · simp
    exact Ok.ret rfl
  obtain ⟨zs, hz, rfl⟩ := some2_pairs hys
  obtain ⟨dk, zl, d1⟩ := chain_doors r1 r2 hz
  have pl : (zs.map fun k : Nat => ((k : Int), (k : Int) + 1)).length ≤ 5 := by rw [List.length_map]; exact zl
  generalize (zs.map fun k : Nat => ((k : Int), (k : Int) + 1)) = ps at dk d1 hys pl ⊢
  clear hys
  refine Ok.bind (P := fun x => x = true → 2 < R) ?_ fun x hx => ?_
  · by_cases h : 2 < R
    · rw [if_pos h]
      exact Ok.bind (Ok.draw (by omega) (by omega)) fun d ⟨r, e, _, _⟩ => by subst e; exact Ok.ret fun _ => h
    · rw [if_neg h]
      exact Ok.ret fun z => by cases z
  refine Ok.bind (P := fun fl => ∃ qs s3, fl = .nx [some (.d (.cell 0)), some (.d (.int R)), some (.d (.int L)), some s3, none, none, none, none] ∧ (s3 = .ol (qs.map eP) ∨ s3 = .d (.lst (qs.map eP))) ∧ DoorsOk qs R) ?_ fun fl hfl => ?_
  · cases x with
    | false => exact Ok.ret ⟨ps, _, rfl, .inl rfl, dk⟩
    | true =>
      have h2 := hx rfl
      rw [if_pos rfl]
      have e : addM (.lst [.tup [.int 0, .int (R - 1)]]) (.lst (ps.map eP)) = M.ret (.lst (((0, R - 1) :: ps).map eP)) := by
        have q := add_pairs [(0, R - 1)] ps (by simp; omega)
        exact q
      rw [e]
      refine Ok.ret ⟨(0, R - 1) :: ps, _, rfl, .inr rfl, ?_, fun p hp => ?_, by simp; omega⟩
      · refine List.nodup_cons.mpr ⟨fun z => ?_, dk.nd⟩
        have := d1 _ z
        simp at this
        omega
      · rcases List.mem_cons.mp hp with rfl | hp
        · exact ⟨by show (0 : Int) ≤ 0; omega, by show (0 : Int) < R - 1; omega, by show R - 1 < R; omega⟩
        · exact dk.rng p hp
  clear hx dk d1 pl x
  obtain ⟨qs, s3, rfl, hs3, dq⟩ := hfl
  obtain ⟨pk, plt, pl6⟩ := dq.pairs
  generalize hds : psort qs = ds at pk plt pl6 ⊢
  have e : (sSeq (sFrz 3 (sSetO 3 (oCall (F1 sortM) [dVar 3]))) : Sx → Sx) = (sSeq (sFrz 3 (sSetO 3 (oCall (F1 sortM) [dVar 3])))) := rfl
  have s1 : (sFrz 3 (sSetO 3 (oCall (F1 sortM) [dVar 3]))) [some (.d (.cell 0)), some (.d (.int R)), some (.d (.int L)), some s3, none, none, none, none] = M.ret (.nx [some (.d (.cell 0)), some (.d (.int R)), some (.d (.int L)), some (.ol (ds.map eP)), none, none, none, none]) := by
    rcases hs3 with rfl | rfl <;> simp [sort_pairs, hds]
  simp only [onNx_nx]
  rw [ap_sSeq, s1]
  simp only [ret_bind, onNx_nx]
  simp
  rw [rng1_ret (by omega) (by omega)]
  simp only [ret_bind]
  have rk : ∀ {i k : Nat}, (List.range (L + 1).toNat)[i]? = some k → k = i ∧ i < 13 := fun {i k} h => by
    obtain ⟨lt, e⟩ := List.getElem?_eq_some_iff.mp h
    rw [List.getElem_range] at e
    rw [List.length_range] at lt
    exact ⟨e.symm, by omega⟩
  obtain ⟨I, hI⟩ : ∃ I : Nat → En → Prop, ∀ i ρ, I i ρ ↔ ∃ s3 xs x5, ρ = [some (.d (.cell 0)), some (.d (.int R)), some (.d (.int L)), some s3, some (.d (.lst (xs.map eP))), x5, none, none] ∧ (s3 = .ol (ds.map eP) ∨ s3 = .d (.lst (ds.map eP))) ∧ Marks xs i ds.length := ⟨_, fun _ _ => Iff.rfl⟩
  refine Ok.bind (Ok.for (fun k : Nat => D.int (k : Int)) I _ 0 _ (fun i k ρ hk hi => ?_) ((hI _ _).mpr ⟨_, [], _, rfl, .inl rfl, Marks.nil _⟩)) fun fl hfl => ?_
  · obtain ⟨rfl, hi13⟩ := rk hk
    obtain ⟨s3, xs, x5, rfl, hs, mk⟩ := (hI _ _).mp hi
    rw [Nat.zero_add] at mk ⊢
    refine ⟨_, rfl, ?_⟩
    have lx := mk.len
    have fz : (sFrz 3 (sSet 4 (d2 addM (dVar 4) (dOwn (oLc (iCall rng1M [dCall (F1 lenM) [dVar 3]]) (bName 7) (tVal (d2 eqM (dCall drawM [dVar 0, dC (.int 4)]) (dC (.int 0)))) (dTup [dVar 5, dVar 7]) [7]))))) [some (.d (.cell 0)), some (.d (.int R)), some (.d (.int L)), some s3, some (.d (.lst (xs.map eP))), some (.d (.int (k : Int))), none, none]
        = (sSet 4 (d2 addM (dVar 4) (dOwn (oLc (iCall rng1M [dCall (F1 lenM) [dVar 3]]) (bName 7) (tVal (d2 eqM (dCall drawM [dVar 0, dC (.int 4)]) (dC (.int 0)))) (dTup [dVar 5, dVar 7]) [7])))) [some (.d (.cell 0)), some (.d (.int R)), some (.d (.int L)), some (.d (.lst (ds.map eP))), some (.d (.lst (xs.map eP))), some (.d (.int (k : Int))), none, none] := by
      rcases hs with rfl | rfl <;> rfl
    show Ok ((sFrz 3 _) [some (.d (.cell 0)), some (.d (.int R)), some (.d (.int L)), some s3, some (.d (.lst (xs.map eP))), some (.d (.int (k : Int))), none, none]) _
    rw [fz]
    simp
    rw [rng1_ret (by omega) (by omega)]
    simp only [ret_bind]
    refine Ok.bind (Ok.noX (Ok.lc (fun k : Nat => D.int (k : Int)) (fun j d => d = eP ((k : Int), (j : Int))) _ fun j hj => ⟨_, rfl, ?_, ?_⟩)) fun ys hys => ?_
    · simp
      exact Ok.bind (Ok.draw (by omega) (by omega)) fun d ⟨r, e, _, _⟩ => by subst e; exact Ok.ret trivial
    · simp
      exact Ok.ret rfl
    obtain ⟨zs, hz, rfl⟩ := some2_pairs hys
    have hz' : zs.Sublist (List.range ds.length) := by simpa using hz
    have zl := hz'.length_le
    rw [List.length_range] at zl
    rw [add_pairs _ _ (by simp; omega)]
    simp only [ret_bind]
    exact Ok.ret ⟨_, rfl, (hI _ _).mpr ⟨_, _, _, rfl, .inr rfl, mk.step (by omega) hz'⟩⟩
  obtain ⟨ρ, rfl, hr⟩ := hfl
  obtain ⟨s3', shut, x5, rfl, hs, mk⟩ := (hI _ _).mp hr
  clear hr hI I
  rw [List.length_range, Nat.zero_add] at mk
  simp
  rw [rng1_ret (by omega) (by omega)]
  simp only [ret_bind]
  obtain ⟨I, hI⟩ : ∃ I : Nat → En → Prop, ∀ i ρ, I i ρ ↔ ∃ xs x5, ρ = [some (.d (.cell 0)), some (.d (.int R)), some (.d (.int L)), some s3', some (.d (.lst (shut.map eP))), x5, some (.d (.lst (xs.map eP))), none] ∧ Marks xs i R.toNat := ⟨_, fun _ _ => Iff.rfl⟩
  refine Ok.bind (Ok.for (fun k : Nat => D.int (k : Int)) I _ 0 _ (fun i k ρ hk hi => ?_) ((hI _ _).mpr ⟨[], _, rfl, Marks.nil _⟩)) fun fl hfl => ?_
  · obtain ⟨rfl, hi13⟩ := rk hk
    obtain ⟨xs, x5, rfl, mk⟩ := (hI _ _).mp hi
    rw [Nat.zero_add] at mk ⊢
    refine ⟨_, rfl, ?_⟩
    have lx := mk.len
    simp
    rw [rng1_ret (by omega) (by omega)]
    simp only [ret_bind]
    refine Ok.bind (Ok.noX (Ok.lc (fun k : Nat => D.int (k : Int)) (fun j d => d = eP ((k : Int), (j : Int))) _ fun j hj => ⟨_, rfl, ?_, ?_⟩)) fun ys hys => ?_
    · simp
      exact Ok.bind (Ok.draw (by omega) (by omega)) fun d ⟨r, e, _, _⟩ => by subst e; exact Ok.ret trivial
    · simp
      exact Ok.ret rfl
    obtain ⟨zs, hz, rfl⟩ := some2_pairs hys
    have zl := hz.length_le
    rw [List.length_range] at zl
    rw [add_pairs _ _ (by simp; omega)]
    simp only [ret_bind]
    exact Ok.ret ⟨_, rfl, (hI _ _).mpr ⟨_, _, rfl, mk.step (by omega) hz⟩⟩
  obtain ⟨ρ, rfl, hr⟩ := hfl
  obtain ⟨dark, x5, rfl, mk2⟩ := (hI _ _).mp hr
  rw [List.length_range, Nat.zero_add] at mk2
  have fin : Ok (M.ret (.tup [.int R, ePs ds, .int L, ePs shut, ePs dark])) fun d => ∃ h, d = eH h ∧ HOk h ∧ h.rooms = R ∧ h.last = L := by
    refine Ok.ret ⟨⟨R, ds, L, shut, dark⟩, rfl, ⟨r1, r2, l1, l2, pk, plt, mk.pairs (by show L + 1 = _; omega) (by omega), ?_⟩, rfl, rfl⟩
    have e : ((R.toNat : Nat) : Int) = R := by omega
    rw [e] at mk2
    exact mk2.pairs (by show L + 1 = _; omega) (by omega)
  rcases hs with rfl | rfl <;> simp <;> exact fin
end WW
set_option maxHeartbeats 4000000
namespace WW
open PySem PySem.Spec L2
theorem pick_ok {ι : Type} (enc : ι → D) (xs : List ι) (h0 : xs ≠ []) (hl : xs.length ≤ 1000) : Ok (WP.F__law_pick [.cell 0, .lst (xs.map enc)]) fun d => ∃ x ∈ xs, d = enc x := by
  have lp : 0 < xs.length := by cases xs with | nil => exact absurd rfl h0 | cons _ _ => simp
  simp only [WP.F__law_pick, runB_ap, WP.b__law_pick]
  simp
  refine Ok.bind (Ok.draw (by omega) (by omega)) fun d ⟨r, e, r1, r2⟩ => ?_
  subst e
  have lt : r.toNat < xs.length := by omega
  rw [ix_lst_ (ds := xs.map enc) (k := r.toNat) (d := enc xs[r.toNat]) (by omega) (by simp [lt])]
  exact Ok.ret ⟨_, List.getElem_mem lt, rfl⟩
theorem law_claim_ok {h : Hs} (hk : HOk h) {m : Int} (m1 : 1 ≤ m) (m2 : m ≤ 4) : Ok (WP.F__law_claim [.cell 0, eH h, .int m]) fun d => ∃ c, d = eC c ∧ CmOk h m c := by
  have k1 := hk.r1
  have k2 := hk.r2
  have k3 := hk.l1
  have k4 := hk.l2
  obtain ⟨P, hP⟩ : ∃ P : D → Prop, ∀ d, P d ↔ ∃ c, d = eC c ∧ CmOk h m c := ⟨_, fun _ => Iff.rfl⟩
  refine Ok.mono (P := P) ?_ fun d hd => (hP d).mp hd
  have pk := pick_ok (fun w : Wd => D.str w.s) [.here, .no, .saw, .missed, .alone, .heard] (by simp) (by simp)
  simp only [List.map_cons, List.map_nil, Wd.s] at pk
  simp only [WP.F__law_claim, runB_ap, WP.b__law_claim]
  simp
  refine Ok.bind pk fun d ⟨w, _, e⟩ => ?_
  have e' : d = .str w.s := by rw [e]; cases w <;> rfl
  subst e'
  clear e
  refine Ok.bind (Ok.draw (by omega) (by omega)) fun d ⟨who, e, o1, o2⟩ => ?_
  subst e
  refine Ok.bind (Ok.draw (by omega) (by omega)) fun d ⟨beat, e, b1, b2⟩ => ?_
  subst e
  have b3 : beat ≤ h.last := by omega
  have at_room : ∀ w : Wd, (w = .here ∨ w = .no) → Ok (drawM [.cell 0, .int h.rooms] >>= fun x => M.ret (D.tup [.str w.s, .int who, .int beat, x])) P := fun w hw =>
    Ok.bind (Ok.draw (by omega) (by omega)) fun d ⟨r, e, r1, r2⟩ => by
      subst e
      refine Ok.ret ((hP _).mpr ⟨⟨w, who, beat, r⟩, ?_, o1, o2, b1, b3, ?_⟩)
      · rcases hw with rfl | rfl <;> rfl
      · rcases hw with rfl | rfl <;> exact ⟨r1, r2⟩
  have none_ : ∀ w : Wd, (w = .alone ∨ w = .heard) → Ok (M.ret (D.tup [.str w.s, .int who, .int beat, .non])) P := fun w hw => by
    refine Ok.ret ((hP _).mpr ⟨⟨w, who, beat, 0⟩, ?_, o1, o2, b1, b3, ?_⟩)
    · rcases hw with rfl | rfl <;> rfl
    · rcases hw with rfl | rfl <;> trivial
  have two : ∀ w : Wd, (w = .saw ∨ w = .missed) → m ≠ 1 → Ok (WP.F__law_pick [.cell 0, .lst (((List.range m.toNat).filter fun k : Nat => !((k : Int) == who)).map fun k : Nat => D.int (k : Int))] >>= fun x => M.ret (D.tup [.str w.s, .int who, .int beat, x])) P := fun w hw hm => by
    have ne : ((List.range m.toNat).filter fun k : Nat => !((k : Int) == who)) ≠ [] := by
      intro z
      have := List.filter_eq_nil_iff.mp z (if who = 0 then 1 else 0) (List.mem_range.mpr (by split <;> omega))
      simp at this
      split at this <;> omega
    refine Ok.bind (pick_ok (fun k : Nat => D.int (k : Int)) _ ne (Nat.le_trans (List.length_filter_le _ _) (by simp; omega))) fun d ⟨k, hk, e⟩ => ?_
    subst e
    obtain ⟨h1, h2⟩ := List.mem_filter.mp hk
    have h3 := List.mem_range.mp h1
    simp at h2
    refine Ok.ret ((hP _).mpr ⟨⟨w, who, beat, k⟩, ?_, o1, o2, b1, b3, ?_⟩)
    · rcases hw with rfl | rfl <;> rfl
    · rcases hw with rfl | rfl <;> exact ⟨by show (0 : Int) ≤ k; omega, by show (k : Int) < m; omega, h2⟩
  have lc : ∀ {ρ0 : En}, ρ0[4]? = some (some (.d (.int who))) → 6 < ρ0.length → lcM ρ0 (bName 6) (tVal (d2 neM (dVar 6) (dVar 4))) (dVar 6) ((List.range m.toNat).map fun k : Nat => D.int (k : Int)) = M.ret (((List.range m.toNat).filter fun k : Nat => !((k : Int) == who)).map fun k : Nat => D.int (k : Int)) := fun {ρ0} h4 h6 => by
    rw [lcM_pure (fun k : Nat => D.int (k : Int)) (fun k => !((k : Int) == who)) (fun k => .int (k : Int)) (List.range m.toNat) fun k hk => ⟨_, rfl, by simp [List.getElem?_set_self h6, List.getElem?_set_ne, h4], fun _ => by simp [List.getElem?_set_self h6]⟩]
  have r1 := rng1_ret (j := m) (by omega) (by omega)
  cases w
  case here => simp [Wd.s]; exact at_room .here (.inl rfl)
  case no => simp [Wd.s]; exact at_room .no (.inr rfl)
  case alone => 
    simp [Wd.s]
    exact none_ .alone (.inl rfl)
  case heard => 
    simp [Wd.s]
    by_cases hm : m = 1
    · simp [hm]; exact none_ .alone (.inl rfl)
    · simp [hm]; exact none_ .heard (.inr rfl)
  case saw =>
    simp [Wd.s]
    by_cases hm : m = 1
    · simp [hm]; exact none_ .alone (.inl rfl)
    · simp [hm, r1]
      rw [lc (by rfl) (by simp)]
      simp only [noX_ret, ret_bind]
      exact two .saw (.inl rfl) hm
  case missed =>
    simp [Wd.s]
    by_cases hm : m = 1
    · simp [hm]; exact none_ .alone (.inl rfl)
    · simp [hm, r1]
      rw [lc (by rfl) (by simp)]
      simp only [noX_ret, ret_bind]
      exact two .missed (.inr rfl) hm
@[simp] theorem is_bb (neg a b : Bool) : isM neg (.bl a) (.bl b) = M.ret (.bl (xor neg (decide (a = b)))) := (rfl)
theorem eqBs_ints : ∀ xs : List Int, eqBs (xs.map D.int) (xs.map D.int) = true
  | [] => rfl
  | x :: xs => by simp [eqBs_ints xs]
theorem ne_same (xs : List Int) : neM (.lst (xs.map D.int)) (.lst (xs.map D.int)) = M.ret (.bl false) := by rw [ne_ret (by simp [ok_ints]) (by simp [ok_ints]), eqB_ll, eqBs_ints]; rfl
theorem all2_ints {ι : Type} {n : Int} {xs : List ι} {ys : List D} (h : All2 (fun _ d => ∃ r, d = .int r ∧ 0 ≤ r ∧ r < n) xs ys) : ∃ st : List Int, ys = st.map .int ∧ st.length = xs.length ∧ ∀ r ∈ st, 0 ≤ r ∧ r < n := by
  induction h with
  | nil => exact ⟨[], rfl, rfl, fun _ h => absurd h (by simp)⟩
  | take hp _ ih =>
    obtain ⟨st, h1, h2, h3⟩ := ih
    obtain ⟨r, e, r1, r2⟩ := hp
    refine ⟨r :: st, by rw [h1, e]; rfl, by simp [h2], fun q hq => ?_⟩
    rcases List.mem_cons.mp hq with rfl | hq
    · exact ⟨r1, r2⟩
    · exact h3 q hq
/-- a slot that no list of one's own is in -/
def NoOwn (x : Option SV) : Prop := x = none ∨ ∃ d, x = some (.d d)
end WW
set_option maxHeartbeats 4000000
namespace Wk01
open PySem PySem.Spec L2 WW
def b_law : Sx :=
 (sSeq (sSet 2 (d2 addM (dC (.int 1)) (dCall drawM [(dVar 1), (dC (.int 4))])))
 (sSeq (sSet 3 (dCall WP.F__law_house [(dVar 1), (d2 addM (dC (.int 1)) (dCall drawM [(dVar 1), (dC (.int 6))])), (dCall drawM [(dVar 1), (dC (.int 13))])]))
 (sSeq (sIf (tVal (d2 (isM true) (dCall WP.F_is_house [(dVar 3)]) (dC (.bl true))))
 (sRet (dC (.bl false)))
 sNil)
 (sSeq (sFor (iCall rng1M [(dC (.int 12))]) (bName 4)
 (sSeq (sSet 5 (dCall drawM [(dVar 1), (d2 addM (d2 ixM (dVar 3) (dC (.int 2))) (dC (.int 1)))]))
 (sSeq (sSet 6 (dCall drawM [(dVar 1), (d2 ixM (dVar 3) (dC (.int 0)))]))
 (sSeq (sIf (tVal (d2 neM (dCall WP.F_next_rooms [(dVar 3), (dVar 6), (dVar 5)]) (dOwn (oCall (F1 sortM) [(d2 addM (dOwn (oLst [(dVar 6)])) (dCall WP.F__law_side [(dVar 3), (dVar 6), (dVar 5)]))]))))
 (sRet (dC (.bl false)))
 sNil)
 (sSeq (sSet 7 (dCall (F1 tupleM) [(dOwn (oLc (iCall rng1M [(dVar 2)]) (bName 14) tAll (dCall drawM [(dVar 1), (d2 ixM (dVar 3) (dC (.int 0)))]) [14]))]))
 (sSeq (sSet 8 (dCall WP.F__law_claim [(dVar 1), (dVar 3), (dVar 2)]))
 (sSeq (sIf (tNotX (tVal (dCall WP.F__law_is [(dCall WP.F_is_so [(dVar 3), (dVar 2), (dVar 7), (dVar 8)]), (dCall WP.F__law_so [(dVar 3), (dVar 7), (dVar 8)])])))
 (sRet (dC (.bl false)))
 sNil)
 (sSeq (sIf (tVal (d2 gtM (dVar 2) (dC (.int 1))))
 (sFor (iSeq (dOwn (oLst [(dC (.str "saw")), (dC (.str "missed"))]))) (bName 10)
 (sSeq (sSet 11 (dOwn (oLst [(dTup [(dVar 10), (dC (.int 0)), (dVar 5), (dC (.int 1))]), (dTup [(dVar 10), (dC (.int 1)), (dVar 5), (dC (.int 0))])])))
 (sSeq (sSetO 12 (oLc (iSeq (dVar 11)) (bName 13) tAll (dCall WP.F_is_so [(dVar 3), (dVar 2), (dVar 7), (dVar 13)]) [13]))
 (sFrz 12 (sIf (tOrX (tVal (d2 neM (d2 ixM (dVar 12) (dC (.int 0))) (d2 ixM (dVar 12) (dC (.int 1))))) (tNotX (tVal (dCall WP.F__law_is [(d2 ixM (dVar 12) (dC (.int 0))), (dCall WP.F__law_so [(dVar 3), (dVar 7), (d2 ixM (dVar 11) (dC (.int 0)))])]))))
 (sRet (dC (.bl false)))
 sNil)))))
 sNil)
 (sFor (iCall rng1M [(dVar 2)]) (bName 9)
 (sFor (iSeq (dOwn (oLst [(dC (.str "alone")), (dC (.str "heard"))]))) (bName 10)
 (sSeq (sSet 13 (dTup [(dVar 10), (dVar 9), (dVar 5), (dC .non)]))
 (sIf (tNotX (tVal (dCall WP.F__law_is [(dCall WP.F_is_so [(dVar 3), (dVar 2), (dVar 7), (dVar 13)]), (dCall WP.F__law_so [(dVar 3), (dVar 7), (dVar 13)])])))
 (sRet (dC (.bl false)))
 sNil))))))))))))
 (sRet (dC (.bl true)))))))
def nLaw : Nat := 15
end Wk01
set_option maxHeartbeats 4000000
namespace Wk01
open PySem PySem.Spec PyProof.Rows L2 WW
def top (i : Nat) : Stmt := PySem.Challenge.pw_wherewas_k01_whole_claims.main.body.getD i (.Pass ⟨0, 0, 0, 0⟩)
def d_is_whole : He.DefD := ⟨("is_whole", none), "is_whole", "is_whole", defArgs (top 6), defBody (top 6), defScope (top 6), [], []⟩
def d_are_pairs : He.DefD := ⟨("are_pairs", none), "are_pairs", "are_pairs", defArgs (top 12), defBody (top 12), defScope (top 12), [], []⟩
def d_is_house : He.DefD := ⟨("is_house", none), "is_house", "is_house", defArgs (top 13), defBody (top 13), defScope (top 13), [], []⟩
def d_look_house : He.DefD := ⟨("look_house", none), "look_house", "look_house", defArgs (top 14), defBody (top 14), defScope (top 14), [], []⟩
def d_look_beat : He.DefD := ⟨("look_beat", none), "look_beat", "look_beat", defArgs (top 15), defBody (top 15), defScope (top 15), [], []⟩
def d_look_room : He.DefD := ⟨("look_room", none), "look_room", "look_room", defArgs (top 16), defBody (top 16), defScope (top 16), [], []⟩
def d_open_doors : He.DefD := ⟨("open_doors", none), "open_doors", "open_doors", defArgs (top 17), defBody (top 17), defScope (top 17), [], []⟩
def d_beside : He.DefD := ⟨("beside", none), "beside", "beside", defArgs (top 18), defBody (top 18), defScope (top 18), [], []⟩
def d_next_rooms : He.DefD := ⟨("next_rooms", none), "next_rooms", "next_rooms", defArgs (top 19), defBody (top 19), defScope (top 19), [], []⟩
def d_is_stand : He.DefD := ⟨("is_stand", none), "is_stand", "is_stand", defArgs (top 20), defBody (top 20), defScope (top 20), [], []⟩
def d_is_claim : He.DefD := ⟨("is_claim", none), "is_claim", "is_claim", defArgs (top 21), defBody (top 21), defScope (top 21), [], []⟩
def d_holds : He.DefD := ⟨("holds", none), "holds", "holds", defArgs (top 22), defBody (top 22), defScope (top 22), [], []⟩
def d_is_so : He.DefD := ⟨("is_so", none), "is_so", "is_so", defArgs (top 23), defBody (top 23), defScope (top 23), [], []⟩
def d__law_town : He.DefD := ⟨("_law_town", none), "_law_town", "_law_town", defArgs (top 25), defBody (top 25), defScope (top 25), [], []⟩
def d__law_draw : He.DefD := ⟨("_law_draw", none), "_law_draw", "_law_draw", defArgs (top 26), defBody (top 26), defScope (top 26), [], []⟩
def d__law_pick : He.DefD := ⟨("_law_pick", none), "_law_pick", "_law_pick", defArgs (top 27), defBody (top 27), defScope (top 27), [], []⟩
def d__law_is : He.DefD := ⟨("_law_is", none), "_law_is", "_law_is", defArgs (top 28), defBody (top 28), defScope (top 28), [], []⟩
def d__law_house : He.DefD := ⟨("_law_house", none), "_law_house", "_law_house", defArgs (top 29), defBody (top 29), defScope (top 29), [], []⟩
def d__law_side : He.DefD := ⟨("_law_side", none), "_law_side", "_law_side", defArgs (top 30), defBody (top 30), defScope (top 30), [], []⟩
def d__law_so : He.DefD := ⟨("_law_so", none), "_law_so", "_law_so", defArgs (top 31), defBody (top 31), defScope (top 31), [], []⟩
def d__law_claim : He.DefD := ⟨("_law_claim", none), "_law_claim", "_law_claim", defArgs (top 32), defBody (top 32), defScope (top 32), [], []⟩
def d_law : He.DefD := ⟨("law", none), "law", "law", defArgs (top 33), defBody (top 33), defScope (top 33), [], []⟩
def fn : List He.DefD := [d_is_whole, d_are_pairs, d_is_house, d_look_house, d_look_beat, d_look_room, d_open_doors, d_beside, d_next_rooms, d_is_stand, d_is_claim, d_holds, d_is_so, d__law_town, d__law_draw, d__law_pick, d__law_is, d__law_house, d__law_side, d__law_so, d__law_claim, d_law]
def fa : List He.Fa := [.glo "is_whole", .glo "are_pairs", .glo "is_house", .glo "look_house", .glo "look_beat", .glo "look_room", .glo "open_doors", .glo "beside", .glo "next_rooms", .glo "is_stand", .glo "is_claim", .glo "holds", .glo "is_so", .glo "_law_town", .glo "_law_draw", .glo "_law_pick", .glo "_law_is", .glo "_law_house", .glo "_law_side", .glo "_law_so", .glo "_law_claim", .glo "law", .glo "WhereError", .glo "BadHouse", .glo "BadBeat", .glo "BadRoom", .glo "BadBook", .exc "WhereError", .exc "BadHouse", .exc "BadBeat", .exc "BadRoom", .exc "BadBook", .free "ValueError", .free "all", .free "any", .free "bool", .free "dict", .free "enumerate", .free "int", .free "isinstance", .free "len", .free "list", .free "max", .free "min", .free "range", .free "set", .free "sorted", .free "str", .free "sum", .free "tuple", .free "zip", .int "MOST_ROOMS" 6, .int "MOST_LAST" 12, .int "MOST_FOLK" 4, .glo "WORDS"]
def ts : List Tp := [(fun K => He.ga K "WORDS", [.str "at", .str "not", .str "saw", .str "missed", .str "alone", .str "heard"])]
def caOf (K : PySem.W.Frag) : Nat → Addr
  | 0 => He.ga K "WhereError"
  | 1 => He.ga K "BadHouse"
  | 3 => He.ga K "BadBeat"
  | 4 => He.ga K "BadRoom"
  | 5 => He.ga K "BadBook"
  | _ => 0
structure Hd (c : Cfg) (mg : Str → Option Value) : Prop where
  sy : SaysY fa ts fn c.K
  ns : ∃ h : Heap, c.K.In h ∧ h.Ns mainGlobals mg
  ca : c.CA = caOf c.K
section
variable {c : Cfg} {mg : Str → Option Value} {base : Heap}
theorem Hd.g_is_whole (B : Hd c mg) : mg "is_whole" = some (.ref (He.ga c.K "is_whole")) := by obtain ⟨h, k1, k2⟩ := B.ns; exact He.glo_ok k1 k2 (B.sy.d.fact 0 (f := .glo "is_whole") rfl)
theorem Hd.g_are_pairs (B : Hd c mg) : mg "are_pairs" = some (.ref (He.ga c.K "are_pairs")) := by obtain ⟨h, k1, k2⟩ := B.ns; exact He.glo_ok k1 k2 (B.sy.d.fact 1 (f := .glo "are_pairs") rfl)
theorem Hd.g_is_house (B : Hd c mg) : mg "is_house" = some (.ref (He.ga c.K "is_house")) := by obtain ⟨h, k1, k2⟩ := B.ns; exact He.glo_ok k1 k2 (B.sy.d.fact 2 (f := .glo "is_house") rfl)
theorem Hd.g_look_house (B : Hd c mg) : mg "look_house" = some (.ref (He.ga c.K "look_house")) := by obtain ⟨h, k1, k2⟩ := B.ns; exact He.glo_ok k1 k2 (B.sy.d.fact 3 (f := .glo "look_house") rfl)
theorem Hd.g_look_beat (B : Hd c mg) : mg "look_beat" = some (.ref (He.ga c.K "look_beat")) := by obtain ⟨h, k1, k2⟩ := B.ns; exact He.glo_ok k1 k2 (B.sy.d.fact 4 (f := .glo "look_beat") rfl)
theorem Hd.g_look_room (B : Hd c mg) : mg "look_room" = some (.ref (He.ga c.K "look_room")) := by obtain ⟨h, k1, k2⟩ := B.ns; exact He.glo_ok k1 k2 (B.sy.d.fact 5 (f := .glo "look_room") rfl)
theorem Hd.g_open_doors (B : Hd c mg) : mg "open_doors" = some (.ref (He.ga c.K "open_doors")) := by obtain ⟨h, k1, k2⟩ := B.ns; exact He.glo_ok k1 k2 (B.sy.d.fact 6 (f := .glo "open_doors") rfl)
theorem Hd.g_beside (B : Hd c mg) : mg "beside" = some (.ref (He.ga c.K "beside")) := by obtain ⟨h, k1, k2⟩ := B.ns; exact He.glo_ok k1 k2 (B.sy.d.fact 7 (f := .glo "beside") rfl)
theorem Hd.g_next_rooms (B : Hd c mg) : mg "next_rooms" = some (.ref (He.ga c.K "next_rooms")) := by obtain ⟨h, k1, k2⟩ := B.ns; exact He.glo_ok k1 k2 (B.sy.d.fact 8 (f := .glo "next_rooms") rfl)
theorem Hd.g_is_stand (B : Hd c mg) : mg "is_stand" = some (.ref (He.ga c.K "is_stand")) := by obtain ⟨h, k1, k2⟩ := B.ns; exact He.glo_ok k1 k2 (B.sy.d.fact 9 (f := .glo "is_stand") rfl)
theorem Hd.g_is_claim (B : Hd c mg) : mg "is_claim" = some (.ref (He.ga c.K "is_claim")) := by obtain ⟨h, k1, k2⟩ := B.ns; exact He.glo_ok k1 k2 (B.sy.d.fact 10 (f := .glo "is_claim") rfl)
theorem Hd.g_holds (B : Hd c mg) : mg "holds" = some (.ref (He.ga c.K "holds")) := by obtain ⟨h, k1, k2⟩ := B.ns; exact He.glo_ok k1 k2 (B.sy.d.fact 11 (f := .glo "holds") rfl)
theorem Hd.g_is_so (B : Hd c mg) : mg "is_so" = some (.ref (He.ga c.K "is_so")) := by obtain ⟨h, k1, k2⟩ := B.ns; exact He.glo_ok k1 k2 (B.sy.d.fact 12 (f := .glo "is_so") rfl)
theorem Hd.g__law_town (B : Hd c mg) : mg "_law_town" = some (.ref (He.ga c.K "_law_town")) := by obtain ⟨h, k1, k2⟩ := B.ns; exact He.glo_ok k1 k2 (B.sy.d.fact 13 (f := .glo "_law_town") rfl)
theorem Hd.g__law_draw (B : Hd c mg) : mg "_law_draw" = some (.ref (He.ga c.K "_law_draw")) := by obtain ⟨h, k1, k2⟩ := B.ns; exact He.glo_ok k1 k2 (B.sy.d.fact 14 (f := .glo "_law_draw") rfl)
theorem Hd.g__law_pick (B : Hd c mg) : mg "_law_pick" = some (.ref (He.ga c.K "_law_pick")) := by obtain ⟨h, k1, k2⟩ := B.ns; exact He.glo_ok k1 k2 (B.sy.d.fact 15 (f := .glo "_law_pick") rfl)
theorem Hd.g__law_is (B : Hd c mg) : mg "_law_is" = some (.ref (He.ga c.K "_law_is")) := by obtain ⟨h, k1, k2⟩ := B.ns; exact He.glo_ok k1 k2 (B.sy.d.fact 16 (f := .glo "_law_is") rfl)
theorem Hd.g__law_house (B : Hd c mg) : mg "_law_house" = some (.ref (He.ga c.K "_law_house")) := by obtain ⟨h, k1, k2⟩ := B.ns; exact He.glo_ok k1 k2 (B.sy.d.fact 17 (f := .glo "_law_house") rfl)
theorem Hd.g__law_side (B : Hd c mg) : mg "_law_side" = some (.ref (He.ga c.K "_law_side")) := by obtain ⟨h, k1, k2⟩ := B.ns; exact He.glo_ok k1 k2 (B.sy.d.fact 18 (f := .glo "_law_side") rfl)
theorem Hd.g__law_so (B : Hd c mg) : mg "_law_so" = some (.ref (He.ga c.K "_law_so")) := by obtain ⟨h, k1, k2⟩ := B.ns; exact He.glo_ok k1 k2 (B.sy.d.fact 19 (f := .glo "_law_so") rfl)
theorem Hd.g__law_claim (B : Hd c mg) : mg "_law_claim" = some (.ref (He.ga c.K "_law_claim")) := by obtain ⟨h, k1, k2⟩ := B.ns; exact He.glo_ok k1 k2 (B.sy.d.fact 20 (f := .glo "_law_claim") rfl)
theorem Hd.g_law (B : Hd c mg) : mg "law" = some (.ref (He.ga c.K "law")) := by obtain ⟨h, k1, k2⟩ := B.ns; exact He.glo_ok k1 k2 (B.sy.d.fact 21 (f := .glo "law") rfl)
theorem Hd.g_WhereError (B : Hd c mg) : mg "WhereError" = some (.ref (He.ga c.K "WhereError")) := by obtain ⟨h, k1, k2⟩ := B.ns; exact He.glo_ok k1 k2 (B.sy.d.fact 22 (f := .glo "WhereError") rfl)
theorem Hd.g_BadHouse (B : Hd c mg) : mg "BadHouse" = some (.ref (He.ga c.K "BadHouse")) := by obtain ⟨h, k1, k2⟩ := B.ns; exact He.glo_ok k1 k2 (B.sy.d.fact 23 (f := .glo "BadHouse") rfl)
theorem Hd.g_BadBeat (B : Hd c mg) : mg "BadBeat" = some (.ref (He.ga c.K "BadBeat")) := by obtain ⟨h, k1, k2⟩ := B.ns; exact He.glo_ok k1 k2 (B.sy.d.fact 24 (f := .glo "BadBeat") rfl)
theorem Hd.g_BadRoom (B : Hd c mg) : mg "BadRoom" = some (.ref (He.ga c.K "BadRoom")) := by obtain ⟨h, k1, k2⟩ := B.ns; exact He.glo_ok k1 k2 (B.sy.d.fact 25 (f := .glo "BadRoom") rfl)
theorem Hd.g_BadBook (B : Hd c mg) : mg "BadBook" = some (.ref (He.ga c.K "BadBook")) := by obtain ⟨h, k1, k2⟩ := B.ns; exact He.glo_ok k1 k2 (B.sy.d.fact 26 (f := .glo "BadBook") rfl)
theorem Hd.g_WORDS (B : Hd c mg) : mg "WORDS" = some (.ref (He.ga c.K "WORDS")) := by obtain ⟨h, k1, k2⟩ := B.ns; exact He.glo_ok k1 k2 (B.sy.d.fact 54 (f := .glo "WORDS") rfl)
theorem Hd.gi_MOST_ROOMS (B : Hd c mg) : ∃ t, mg "MOST_ROOMS" = some (.int 6 t) := by obtain ⟨h, k1, k2⟩ := B.ns; exact He.int_ok k1 k2 (B.sy.d.fact 51 (f := .int "MOST_ROOMS" 6) rfl)
theorem Hd.gi_MOST_LAST (B : Hd c mg) : ∃ t, mg "MOST_LAST" = some (.int 12 t) := by obtain ⟨h, k1, k2⟩ := B.ns; exact He.int_ok k1 k2 (B.sy.d.fact 52 (f := .int "MOST_LAST" 12) rfl)
theorem Hd.gi_MOST_FOLK (B : Hd c mg) : ∃ t, mg "MOST_FOLK" = some (.int 4 t) := by obtain ⟨h, k1, k2⟩ := B.ns; exact He.int_ok k1 k2 (B.sy.d.fact 53 (f := .int "MOST_FOLK" 4) rfl)
theorem Hd.gm_WORDS (B : Hd c mg) : mg "WORDS" = some (.ref (He.ga c.K "WORDS")) := B.g_WORDS
theorem Hd.gt_WORDS (B : Hd c mg) : GT c (He.ga c.K "WORDS") WP.g_WORDS := ⟨⟨[.str "at", .str "not", .str "saw", .str "missed", .str "alone", .str "heard"], by decide +kernel, fun H => tupAt_ok (B.sy.t 0) H⟩, by decide +kernel⟩
theorem Hd.xc_WhereError (B : Hd c mg) : XC c mg "WhereError" 0 := by
  obtain ⟨a, b, d, e⟩ := He.exc_ok (B.sy.d.fact 27 (f := .exc "WhereError") rfl)
  have q : c.CA 0 = He.ga c.K "WhereError" := by rw [B.ca]; rfl
  exact ⟨by rw [q]; exact B.g_WhereError, by rw [q]; exact a, by rw [q]; exact b, by rw [q]; exact d, by rw [q]; exact e⟩
theorem Hd.xc_BadHouse (B : Hd c mg) : XC c mg "BadHouse" 1 := by
  obtain ⟨a, b, d, e⟩ := He.exc_ok (B.sy.d.fact 28 (f := .exc "BadHouse") rfl)
  have q : c.CA 1 = He.ga c.K "BadHouse" := by rw [B.ca]; rfl
  exact ⟨by rw [q]; exact B.g_BadHouse, by rw [q]; exact a, by rw [q]; exact b, by rw [q]; exact d, by rw [q]; exact e⟩
theorem Hd.xc_BadBeat (B : Hd c mg) : XC c mg "BadBeat" 3 := by
  obtain ⟨a, b, d, e⟩ := He.exc_ok (B.sy.d.fact 29 (f := .exc "BadBeat") rfl)
  have q : c.CA 3 = He.ga c.K "BadBeat" := by rw [B.ca]; rfl
  exact ⟨by rw [q]; exact B.g_BadBeat, by rw [q]; exact a, by rw [q]; exact b, by rw [q]; exact d, by rw [q]; exact e⟩
theorem Hd.xc_BadRoom (B : Hd c mg) : XC c mg "BadRoom" 4 := by
  obtain ⟨a, b, d, e⟩ := He.exc_ok (B.sy.d.fact 30 (f := .exc "BadRoom") rfl)
  have q : c.CA 4 = He.ga c.K "BadRoom" := by rw [B.ca]; rfl
  exact ⟨by rw [q]; exact B.g_BadRoom, by rw [q]; exact a, by rw [q]; exact b, by rw [q]; exact d, by rw [q]; exact e⟩
theorem Hd.xc_BadBook (B : Hd c mg) : XC c mg "BadBook" 5 := by
  obtain ⟨a, b, d, e⟩ := He.exc_ok (B.sy.d.fact 31 (f := .exc "BadBook") rfl)
  have q : c.CA 5 = He.ga c.K "BadBook" := by rw [B.ca]; rfl
  exact ⟨by rw [q]; exact B.g_BadBook, by rw [q]; exact a, by rw [q]; exact b, by rw [q]; exact d, by rw [q]; exact e⟩
theorem Hd.bl (B : Hd c mg) : BL mg := by
  obtain ⟨h, k1, k2⟩ := B.ns
  exact ⟨He.free_ok k1 k2 (B.sy.d.fact 40 (f := .free "len") rfl), He.free_ok k1 k2 (B.sy.d.fact 39 (f := .free "isinstance") rfl), He.free_ok k1 k2 (B.sy.d.fact 33 (f := .free "all") rfl), He.free_ok k1 k2 (B.sy.d.fact 34 (f := .free "any") rfl), He.free_ok k1 k2 (B.sy.d.fact 46 (f := .free "sorted") rfl), He.free_ok k1 k2 (B.sy.d.fact 44 (f := .free "range") rfl), He.free_ok k1 k2 (B.sy.d.fact 41 (f := .free "list") rfl), He.free_ok k1 k2 (B.sy.d.fact 49 (f := .free "tuple") rfl), He.free_ok k1 k2 (B.sy.d.fact 38 (f := .free "int") rfl), He.free_ok k1 k2 (B.sy.d.fact 47 (f := .free "str") rfl), He.free_ok k1 k2 (B.sy.d.fact 35 (f := .free "bool") rfl), He.free_ok k1 k2 (B.sy.d.fact 37 (f := .free "enumerate") rfl), He.free_ok k1 k2 (B.sy.d.fact 50 (f := .free "zip") rfl), He.free_ok k1 k2 (B.sy.d.fact 42 (f := .free "max") rfl), He.free_ok k1 k2 (B.sy.d.fact 43 (f := .free "min") rfl), He.free_ok k1 k2 (B.sy.d.fact 48 (f := .free "sum") rfl), He.free_ok k1 k2 (B.sy.d.fact 45 (f := .free "set") rfl), He.free_ok k1 k2 (B.sy.d.fact 36 (f := .free "dict") rfl), He.free_ok k1 k2 (B.sy.d.fact 32 (f := .free "ValueError") rfl)⟩
end
theorem ok__law_draw {c : Cfg} {mg : Str → Option Value} {base : Heap} (B : Hd c mg) : Fn c mg base "_law_draw" ["_law_town_here", "_law_count"] 1 drawM := by
  obtain ⟨fd, F⟩ := B.sy.d.def_ 14 (d := d__law_draw) rfl
  have S : FnScope ["_law_town_here", "_law_count", "_law_numbers", "_law_at", "_law_cell", "_law_mixed"] ["_law_town_here", "_law_count"] (defScope (top 26)) := ⟨rfl, rfl, rfl, by decide +kernel, rfl, by decide +kernel, by decide +kernel⟩
  refine Fn.draw (N := ["_law_town_here", "_law_count", "_law_numbers", "_law_at", "_law_cell", "_law_mixed"]) F S B.g__law_draw (F.bindsN fun _ _ _ _ _ _ us hl => match us, hl with | [_, _], _ => rfl) B.bl rfl rfl fun cdv A outer s H E h => ?_
  exact pss_cons (ps_set (i := 2) S.nd rfl (Or.inl rfl) (pe_ix ix_list (pv 0) pe_int (by exact fun _ _ => rfl))) (pss_cons (ps_asg (pe_op op_add (pe_ix ix_list (pv 0) pe_int (by exact fun _ _ => rfl)) pe_int) (pg_sub (pv 0) pe_int set_list))
    (pss_cons (ps_set (i := 3) S.nd rfl (Or.inl rfl) (pe_op op_mod (pe_ix ix_list (pv 0) pe_int (by exact fun _ _ => rfl)) (pe_callB call_len_seq rfl B.bl.len PySem.boot_len (pa_cons (pv 2) pa_nil)))) (pss_cons (ps_set (i := 4) S.nd rfl (Or.inl rfl) (pe_ix ix_list (pv 2) (pv 3) (by exact fun _ _ => rfl)))
    (pss_cons (ps_if (pt_cmpR op_ge (pv 4) pe_int (nomark _)) (pss_cons (ps_asg (pe_op op_fdiv (pv 4) (pv 1)) (pg_sub (pv 2) (pv 3) set_list)) (pss_one (ps_ret (pe_op op_mod (pv 4) (pv 1))))) pss_nil)
    (pss_cons (ps_set (i := 5) S.nd rfl (Or.inl rfl) (pe_op op_mod (pe_op op_add (pv 4) (pe_op op_mul pe_int (pe_ix ix_list (pv 0) pe_int (by exact fun _ _ => rfl)))) pe_int)) (pss_cons (ps_set (i := 5) S.nd rfl (Or.inl rfl) (pe_op op_mod (pe_op op_pow (pv 5) pe_int) pe_int))
    (pss_one (ps_ret (pe_op op_mod (pe_op op_fdiv (pe_op op_mod (pe_op op_add (pe_op op_mul (pe_op op_fdiv (pv 5) pe_int) pe_int) (pv 5)) pe_int) pe_int) (pv 1))))))))))
theorem ok__law_town {c : Cfg} {mg : Str → Option Value} {base : Heap} (B : Hd c mg) : FnS c mg base "_law_town" ["_law_script"] 1 (spTown c) := by
  obtain ⟨fd, F⟩ := B.sy.d.def_ 13 (d := d__law_town) rfl
  have S : FnScope ["_law_script"] ["_law_script"] (defScope (top 25)) := ⟨rfl, rfl, rfl, by decide +kernel, rfl, by decide +kernel, by decide +kernel⟩
  refine FnS.town (N := ["_law_script"]) F S B.g__law_town (F.bindsN fun _ _ _ _ _ _ us hl => match us, hl with | [_], _ => rfl) B.bl rfl rfl fun cdv A outer s H E h => ?_
  exact pss_one (ps_ret (pe_lst (pa_cons (pe_ifExp (pt_cmpR (op_neD (by have := h.units; omega)) (pv 0) (pe_lst pa_nil) (nomark _)) (pe_callTy call_list_of rfl B.bl.list (by decide +kernel) (pa_cons (pv 0) pa_nil)) (pe_lst (pa_cons pe_int pa_nil))) (pa_cons pe_int pa_nil))))
theorem ok_is_whole {c : Cfg} {mg : Str → Option Value} {base : Heap} (B : Hd c mg) : Fn c mg base "is_whole" ["thing", "low", "high"] 1 WP.F_is_whole := by
  obtain ⟨fd, F⟩ := B.sy.d.def_ 0 (d := d_is_whole) rfl
  have S : FnScope ["thing", "low", "high"] ["thing", "low", "high"] (defScope (top 6)) := ⟨rfl, rfl, rfl, by decide +kernel, rfl, by decide +kernel, by decide +kernel⟩
  exact Fn.of (N := ["thing", "low", "high"]) (k := 0) 3 F S B.g_is_whole (F.bindsN fun _ _ _ _ _ _ us hl => match us, hl with | [_, _, _], _ => rfl) B.bl rfl fun cdv A outer s H E h hp =>
   (ds_one (ds_ret (de_and (de_isi_int h (de_var 0)) (de_and (de_not (de_isi_bool h (de_var 0))) (de_one (de_lele (de_var 1) (de_var 0) (de_var 2)))))))
theorem ok_are_pairs {c : Cfg} {mg : Str → Option Value} {base : Heap} (B : Hd c mg) : Fn c mg base "are_pairs" ["thing", "first", "second"] 2 WP.F_are_pairs := by
  obtain ⟨fd, F⟩ := B.sy.d.def_ 1 (d := d_are_pairs) rfl
  have S : FnScope ["thing", "first", "second", "k", "one"] ["thing", "first", "second"] (defScope (top 12)) := ⟨rfl, rfl, rfl, by decide +kernel, rfl, by decide +kernel, by decide +kernel⟩
  exact Fn.of (N := ["thing", "first", "second", "k", "one"]) (k := 1) 5 F S B.g_are_pairs (F.bindsN fun _ _ _ _ _ _ us hl => match us, hl with | [_, _, _], _ => rfl) B.bl rfl fun cdv A outer s H E h hp =>
   (ds_cons (ds_if (dw_or (dt_not (dt_val (de_isi_tuple h (de_var 0)))) (dw_or1 (dt_not (dt_val (de_all h (de_own (do_lc [("one", 4)] h (di_seq h (de_var 0)) (blk_of (by kernel_rfl)) (bdName 4) (by decide) (fun _ _ _ _ _ h1 => ⟨(dg_name 4 h1), dts_nil, (de_and (de_isi_tuple h1 (de_var 4)) (de_one (de_eq h1 (de_len h1 (de_var 4)) de_int)))⟩)))))))).pt
 (ds_one (ds_ret de_bl))
 ds_nil)
 (ds_cons (ds_if (dt_not (dt_val (de_all h (de_own (do_lc [("one", 4)] h (di_seq h (de_var 0)) (blk_of (by kernel_rfl)) (bdName 4) (by decide) (fun _ _ _ _ _ h2 => ⟨(dg_name 4 h2), dts_nil, (de_and (de_fn h2 (ok_is_whole B) (da_cons (de_ix h2 (de_var 4) de_int) (da_cons de_int (da_cons (de_sub (de_var 1) de_int) da_nil)))) (de_one (de_fn h2 (ok_is_whole B) (da_cons (de_ix h2 (de_var 4) de_int) (da_cons de_int (da_cons (de_sub (de_var 2) de_int) da_nil))))))⟩))))))
 (ds_one (ds_ret de_bl))
 ds_nil)
 (ds_one (ds_ret (de_all h (de_own (do_lc [("k", 3)] h (di_range1 h (de_sub (de_len h (de_var 0)) de_int)) (blk_of (by kernel_rfl)) (bdName 3) (by decide) (fun _ _ _ _ _ h3 => ⟨(dg_name 3 h3), dts_nil, (de_lt h3 (de_ix h3 (de_var 0) (de_var 3)) (de_ix h3 (de_var 0) (de_add h3 (de_var 3) de_int)))⟩))))))))
theorem ok_is_house {c : Cfg} {mg : Str → Option Value} {base : Heap} (B : Hd c mg) : Fn c mg base "is_house" ["thing"] 3 WP.F_is_house := by
  obtain ⟨fd, F⟩ := B.sy.d.def_ 2 (d := d_is_house) rfl
  have S : FnScope ["thing", "rooms", "doors", "last", "shut", "dark", "one", "other"] ["thing"] (defScope (top 13)) := ⟨rfl, rfl, rfl, by decide +kernel, rfl, by decide +kernel, by decide +kernel⟩
  exact Fn.of (N := ["thing", "rooms", "doors", "last", "shut", "dark", "one", "other"]) (k := 2) 8 F S B.g_is_house (F.bindsN fun _ _ _ _ _ _ us hl => match us, hl with | [_], _ => rfl) B.bl rfl fun cdv A outer s H E h hp =>
   (ds_cons (ds_if (dw_or (dt_not (dt_val (de_isi_tuple h (de_var 0)))) (dw_or (dt_ne h (de_len h (de_var 0)) de_int) (dw_or1 (dt_not (dt_val (de_fn h (ok_is_whole B) (da_cons (de_ix h (de_var 0) de_int) (da_cons de_int (da_cons (de_gint (B.gi_MOST_ROOMS)) da_nil))))))))).pt
 (ds_one (ds_ret de_bl))
 ds_nil)
 (ds_cons (ds_unp h (pn_cons 1 h (pn_cons 2 h (pn_cons 3 h (pn_cons 4 h (pn_cons 5 h pn_nil))))) (de_var 0))
 (ds_cons (ds_if (dw_or (dt_not (dt_val (de_fn h (ok_are_pairs B) (da_cons (de_var 2) (da_cons (de_var 1) (da_cons (de_var 1) da_nil)))))) (dw_or1 (dt_val (de_any h (de_own (do_lc [("one", 6), ("other", 7)] h (di_seq h (de_var 2)) (blk_of (by kernel_rfl)) (bdTup [6, 7]) (by decide) (fun _ _ _ _ _ h1 => ⟨(dg_tup h1 (pn_cons 6 h1 (pn_cons 7 h1 pn_nil))), dts_nil, (de_ge (de_var 6) (de_var 7))⟩))))))).pt
 (ds_one (ds_ret de_bl))
 ds_nil)
 (ds_cons (ds_if (dt_not (dt_val (de_fn h (ok_is_whole B) (da_cons (de_var 3) (da_cons de_int (da_cons (de_gint (B.gi_MOST_LAST)) da_nil))))))
 (ds_one (ds_ret de_bl))
 ds_nil)
 (ds_one (ds_ret (de_and (de_fn h (ok_are_pairs B) (da_cons (de_var 4) (da_cons (de_add h (de_var 3) de_int) (da_cons (de_len h (de_var 2)) da_nil)))) (de_one (de_fn h (ok_are_pairs B) (da_cons (de_var 5) (da_cons (de_add h (de_var 3) de_int) (da_cons (de_var 1) da_nil))))))))))))
theorem ok_look_house {c : Cfg} {mg : Str → Option Value} {base : Heap} (B : Hd c mg) : Fn c mg base "look_house" ["house", "many"] 4 WP.F_look_house := by
  obtain ⟨fd, F⟩ := B.sy.d.def_ 3 (d := d_look_house) rfl
  have S : FnScope ["house", "many"] ["house", "many"] (defScope (top 14)) := ⟨rfl, rfl, rfl, by decide +kernel, rfl, by decide +kernel, by decide +kernel⟩
  exact Fn.of (N := ["house", "many"]) (k := 3) 2 F S B.g_look_house (F.bindsN fun _ _ _ _ _ _ us hl => match us, hl with | [_, _], _ => rfl) B.bl rfl fun cdv A outer s H E h hp =>
   (ds_one (ds_if (dw_or (dt_not (dt_val (de_fn h (ok_is_house B) (da_cons (de_var 0) da_nil)))) (dw_or1 (dt_not (dt_val (de_fn h (ok_is_whole B) (da_cons (de_var 1) (da_cons de_int (da_cons (de_gint (B.gi_MOST_FOLK)) da_nil)))))))).pt
 (ds_one (ds_raise 1 h (B.xc_BadHouse)))
 ds_nil))
theorem ok_look_beat {c : Cfg} {mg : Str → Option Value} {base : Heap} (B : Hd c mg) : Fn c mg base "look_beat" ["house", "thing"] 2 WP.F_look_beat := by
  obtain ⟨fd, F⟩ := B.sy.d.def_ 4 (d := d_look_beat) rfl
  have S : FnScope ["house", "thing"] ["house", "thing"] (defScope (top 15)) := ⟨rfl, rfl, rfl, by decide +kernel, rfl, by decide +kernel, by decide +kernel⟩
  exact Fn.of (N := ["house", "thing"]) (k := 1) 2 F S B.g_look_beat (F.bindsN fun _ _ _ _ _ _ us hl => match us, hl with | [_, _], _ => rfl) B.bl rfl fun cdv A outer s H E h hp =>
   (ds_one (ds_if (dt_not (dt_val (de_fn h (ok_is_whole B) (da_cons (de_var 1) (da_cons de_int (da_cons (de_ix h (de_var 0) de_int) da_nil))))))
 (ds_one (ds_raise 3 h (B.xc_BadBeat)))
 ds_nil))
theorem ok_look_room {c : Cfg} {mg : Str → Option Value} {base : Heap} (B : Hd c mg) : Fn c mg base "look_room" ["house", "thing"] 2 WP.F_look_room := by
  obtain ⟨fd, F⟩ := B.sy.d.def_ 5 (d := d_look_room) rfl
  have S : FnScope ["house", "thing"] ["house", "thing"] (defScope (top 16)) := ⟨rfl, rfl, rfl, by decide +kernel, rfl, by decide +kernel, by decide +kernel⟩
  exact Fn.of (N := ["house", "thing"]) (k := 1) 2 F S B.g_look_room (F.bindsN fun _ _ _ _ _ _ us hl => match us, hl with | [_, _], _ => rfl) B.bl rfl fun cdv A outer s H E h hp =>
   (ds_one (ds_if (dt_not (dt_val (de_fn h (ok_is_whole B) (da_cons (de_var 1) (da_cons de_int (da_cons (de_sub (de_ix h (de_var 0) de_int) de_int) da_nil))))))
 (ds_one (ds_raise 4 h (B.xc_BadRoom)))
 ds_nil))
theorem ok_open_doors {c : Cfg} {mg : Str → Option Value} {base : Heap} (B : Hd c mg) : Fn c mg base "open_doors" ["house", "beat"] 1 WP.F_open_doors := by
  obtain ⟨fd, F⟩ := B.sy.d.def_ 6 (d := d_open_doors) rfl
  have S : FnScope ["house", "beat", "k", "door"] ["house", "beat"] (defScope (top 17)) := ⟨rfl, rfl, rfl, by decide +kernel, rfl, by decide +kernel, by decide +kernel⟩
  exact Fn.of (N := ["house", "beat", "k", "door"]) (k := 0) 4 F S B.g_open_doors (F.bindsN fun _ _ _ _ _ _ us hl => match us, hl with | [_, _], _ => rfl) B.bl rfl fun cdv A outer s H E h hp =>
   (ds_one (ds_ret (de_own (do_lc [("k", 2), ("door", 3)] h (di_enum h (de_ix h (de_var 0) de_int)) (blk_of (by kernel_rfl)) (bdTup [2, 3]) (by decide) (fun _ _ _ _ _ h1 => ⟨(dg_tup h1 (pn_cons 2 h1 (pn_cons 3 h1 pn_nil))), (dts_one (dt_nin h1 (de_tup (da_cons (de_var 1) (da_cons (de_var 2) da_nil))) (de_ix h1 (de_var 0) de_int))), (de_var 3)⟩)))))
theorem ok_beside {c : Cfg} {mg : Str → Option Value} {base : Heap} (B : Hd c mg) : Fn c mg base "beside" ["house", "room", "beat"] 2 WP.F_beside := by
  obtain ⟨fd, F⟩ := B.sy.d.def_ 7 (d := d_beside) rfl
  have S : FnScope ["house", "room", "beat", "found", "one", "other"] ["house", "room", "beat"] (defScope (top 18)) := ⟨rfl, rfl, rfl, by decide +kernel, rfl, by decide +kernel, by decide +kernel⟩
  exact Fn.of (N := ["house", "room", "beat", "found", "one", "other"]) (k := 1) 6 F S B.g_beside (F.bindsN fun _ _ _ _ _ _ us hl => match us, hl with | [_, _, _], _ => rfl) B.bl rfl fun cdv A outer s H E h hp =>
   (ds_cons (ds_setO 3 h (do_lst da_nil))
 (ds_cons (ds_for h hp (di_seq h (de_fn h (ok_open_doors B) (da_cons (de_var 0) (da_cons (de_var 2) da_nil)))) (dg_tup h (pn_cons 4 h (pn_cons 5 h pn_nil)))
 (ds_one (ds_if (dt_in h (de_var 1) (de_tup (da_cons (de_var 4) (da_cons (de_var 5) da_nil))))
 (ds_one (ds_app 3 h (de_sub (de_add h (de_var 4) (de_var 5)) (de_var 1))))
 ds_nil)))
 (ds_one (ds_frz 3 (ds_ret (de_own (do_sorted h (de_var 3))))))))
theorem ok_next_rooms {c : Cfg} {mg : Str → Option Value} {base : Heap} (B : Hd c mg) : Fn c mg base "next_rooms" ["house", "room", "beat"] 5 WP.F_next_rooms := by
  obtain ⟨fd, F⟩ := B.sy.d.def_ 8 (d := d_next_rooms) rfl
  have S : FnScope ["house", "room", "beat"] ["house", "room", "beat"] (defScope (top 19)) := ⟨rfl, rfl, rfl, by decide +kernel, rfl, by decide +kernel, by decide +kernel⟩
  exact Fn.of (N := ["house", "room", "beat"]) (k := 4) 3 F S B.g_next_rooms (F.bindsN fun _ _ _ _ _ _ us hl => match us, hl with | [_, _, _], _ => rfl) B.bl rfl fun cdv A outer s H E h hp =>
   (ds_cons (ds_expr (de_fn h (ok_look_house B) (da_cons (de_var 0) (da_cons de_int da_nil))))
 (ds_cons (ds_expr (de_fn h (ok_look_room B) (da_cons (de_var 0) (da_cons (de_var 1) da_nil))))
 (ds_cons (ds_expr (de_fn h (ok_look_beat B) (da_cons (de_var 0) (da_cons (de_var 2) da_nil))))
 (ds_one (ds_ret (de_own (do_sorted h (de_add h (de_own (do_lst (da_cons (de_var 1) da_nil))) (de_fn h (ok_beside B) (da_cons (de_var 0) (da_cons (de_var 1) (da_cons (de_var 2) da_nil))))))))))))
theorem ok_is_stand {c : Cfg} {mg : Str → Option Value} {base : Heap} (B : Hd c mg) : Fn c mg base "is_stand" ["house", "many", "thing"] 2 WP.F_is_stand := by
  obtain ⟨fd, F⟩ := B.sy.d.def_ 9 (d := d_is_stand) rfl
  have S : FnScope ["house", "many", "thing", "one"] ["house", "many", "thing"] (defScope (top 20)) := ⟨rfl, rfl, rfl, by decide +kernel, rfl, by decide +kernel, by decide +kernel⟩
  exact Fn.of (N := ["house", "many", "thing", "one"]) (k := 1) 4 F S B.g_is_stand (F.bindsN fun _ _ _ _ _ _ us hl => match us, hl with | [_, _, _], _ => rfl) B.bl rfl fun cdv A outer s H E h hp =>
   (ds_one (ds_ret (de_and (de_isi_tuple h (de_var 2)) (de_and (de_eq h (de_len h (de_var 2)) (de_var 1)) (de_one (de_all h (de_own (do_lc [("one", 3)] h (di_seq h (de_var 2)) (blk_of (by kernel_rfl)) (bdName 3) (by decide) (fun _ _ _ _ _ h1 => ⟨(dg_name 3 h1), dts_nil, (de_fn h1 (ok_is_whole B) (da_cons (de_var 3) (da_cons de_int (da_cons (de_sub (de_ix h1 (de_var 0) de_int) de_int) da_nil))))⟩)))))))))
theorem ok_is_claim {c : Cfg} {mg : Str → Option Value} {base : Heap} (B : Hd c mg) : Fn c mg base "is_claim" ["house", "many", "thing"] 2 WP.F_is_claim := by
  obtain ⟨fd, F⟩ := B.sy.d.def_ 10 (d := d_is_claim) rfl
  have S : FnScope ["house", "many", "thing", "word", "who", "beat", "what"] ["house", "many", "thing"] (defScope (top 21)) := ⟨rfl, rfl, rfl, by decide +kernel, rfl, by decide +kernel, by decide +kernel⟩
  exact Fn.of (N := ["house", "many", "thing", "word", "who", "beat", "what"]) (k := 1) 7 F S B.g_is_claim (F.bindsN fun _ _ _ _ _ _ us hl => match us, hl with | [_, _, _], _ => rfl) B.bl rfl fun cdv A outer s H E h hp =>
   (ds_cons (ds_if (dw_or (dt_not (dt_val (de_isi_tuple h (de_var 2)))) (dw_or (dt_ne h (de_len h (de_var 2)) de_int) (dw_or (dt_not (dt_val (de_isi_str h (de_ix h (de_var 2) de_int)))) (dw_or1 (dt_nin h (de_ix h (de_var 2) de_int) (de_gtup (B.gm_WORDS) (B.gt_WORDS))))))).pt
 (ds_one (ds_ret de_bl))
 ds_nil)
 (ds_cons (ds_unp h (pn_cons 3 h (pn_cons 4 h (pn_cons 5 h (pn_cons 6 h pn_nil)))) (de_var 2))
 (ds_cons (ds_if (dw_or (dt_not (dt_val (de_fn h (ok_is_whole B) (da_cons (de_var 4) (da_cons de_int (da_cons (de_sub (de_var 1) de_int) da_nil)))))) (dw_or1 (dt_not (dt_val (de_fn h (ok_is_whole B) (da_cons (de_var 5) (da_cons de_int (da_cons (de_ix h (de_var 0) de_int) da_nil)))))))).pt
 (ds_one (ds_ret de_bl))
 ds_nil)
 (ds_cons (ds_if (dt_in h (de_var 3) (de_tup (da_cons de_str (da_cons de_str da_nil))))
 (ds_one (ds_ret (de_fn h (ok_is_whole B) (da_cons (de_var 6) (da_cons de_int (da_cons (de_sub (de_ix h (de_var 0) de_int) de_int) da_nil))))))
 ds_nil)
 (ds_cons (ds_if (dt_in h (de_var 3) (de_tup (da_cons de_str (da_cons de_str da_nil))))
 (ds_one (ds_ret (de_is (de_var 6) de_non)))
 ds_nil)
 (ds_one (ds_ret (de_and (de_fn h (ok_is_whole B) (da_cons (de_var 6) (da_cons de_int (da_cons (de_sub (de_var 1) de_int) da_nil)))) (de_one (de_ne h (de_var 6) (de_var 4)))))))))))
theorem ok_holds {c : Cfg} {mg : Str → Option Value} {base : Heap} (B : Hd c mg) : Fn c mg base "holds" ["house", "stand", "claim"] 3 WP.F_holds := by
  obtain ⟨fd, F⟩ := B.sy.d.def_ 11 (d := d_holds) rfl
  have S : FnScope ["house", "stand", "claim", "room", "others", "word", "who", "beat", "what", "one"] ["house", "stand", "claim"] (defScope (top 22)) := ⟨rfl, rfl, rfl, by decide +kernel, rfl, by decide +kernel, by decide +kernel⟩
  exact Fn.of (N := ["house", "stand", "claim", "room", "others", "word", "who", "beat", "what", "one"]) (k := 2) 10 F S B.g_holds (F.bindsN fun _ _ _ _ _ _ us hl => match us, hl with | [_, _, _], _ => rfl) B.bl rfl fun cdv A outer s H E h hp =>
   (ds_cons (ds_unp h (pn_cons 5 h (pn_cons 6 h (pn_cons 7 h (pn_cons 8 h pn_nil)))) (de_var 2))
 (ds_cons (ds_set 3 h (de_ix h (de_var 1) (de_var 6)))
 (ds_cons (ds_if (dt_eq h (de_var 5) de_str)
 (ds_one (ds_ret (de_eq h (de_var 3) (de_var 8))))
 ds_nil)
 (ds_cons (ds_if (dt_eq h (de_var 5) de_str)
 (ds_one (ds_ret (de_ne h (de_var 3) (de_var 8))))
 ds_nil)
 (ds_cons (ds_if (dt_eq h (de_var 5) de_str)
 (ds_one (ds_ret (de_and (de_eq h (de_ix h (de_var 1) (de_var 8)) (de_var 3)) (de_one (de_nin h (de_tup (da_cons (de_var 7) (da_cons (de_var 3) da_nil))) (de_ix h (de_var 0) de_int))))))
 ds_nil)
 (ds_cons (ds_if (dt_eq h (de_var 5) de_str)
 (ds_one (ds_ret (de_ne h (de_ix h (de_var 1) (de_var 8)) (de_var 3))))
 ds_nil)
 (ds_cons (ds_setO 4 h (do_lc [("one", 9)] h (di_range1 h (de_len h (de_var 1))) (blk_of (by kernel_rfl)) (bdName 9) (by decide) (fun _ _ _ _ _ h1 => ⟨(dg_name 9 h1), (dts_one (dt_ne h1 (de_var 9) (de_var 6))), (de_ix h1 (de_var 1) (de_var 9))⟩)))
 (ds_cons (ds_if (dt_eq h (de_var 5) de_str)
 (ds_one (ds_frz 4 (ds_ret (de_nin h (de_var 3) (de_var 4)))))
 ds_nil)
 (ds_one (ds_frz 4 (ds_ret (de_any h (de_own (do_lc [("one", 9)] h (di_seq h (de_fn h (ok_beside B) (da_cons (de_var 0) (da_cons (de_var 3) (da_cons (de_var 7) da_nil))))) (blk_of (by kernel_rfl)) (bdName 9) (by decide) (fun _ _ _ _ _ h2 => ⟨(dg_name 9 h2), dts_nil, (de_in h2 (de_var 9) (de_var 4))⟩)))))))))))))))
theorem ok_is_so {c : Cfg} {mg : Str → Option Value} {base : Heap} (B : Hd c mg) : Fn c mg base "is_so" ["house", "many", "stand", "claim"] 5 WP.F_is_so := by
  obtain ⟨fd, F⟩ := B.sy.d.def_ 12 (d := d_is_so) rfl
  have S : FnScope ["house", "many", "stand", "claim"] ["house", "many", "stand", "claim"] (defScope (top 23)) := ⟨rfl, rfl, rfl, by decide +kernel, rfl, by decide +kernel, by decide +kernel⟩
  exact Fn.of (N := ["house", "many", "stand", "claim"]) (k := 4) 4 F S B.g_is_so (F.bindsN fun _ _ _ _ _ _ us hl => match us, hl with | [_, _, _, _], _ => rfl) B.bl rfl fun cdv A outer s H E h hp =>
   (ds_cons (ds_expr (de_fn h (ok_look_house B) (da_cons (de_var 0) (da_cons (de_var 1) da_nil))))
 (ds_cons (ds_if (dt_not (dt_val (de_fn h (ok_is_stand B) (da_cons (de_var 0) (da_cons (de_var 1) (da_cons (de_var 2) da_nil))))))
 (ds_one (ds_raise 4 h (B.xc_BadRoom)))
 ds_nil)
 (ds_cons (ds_if (dt_not (dt_val (de_fn h (ok_is_claim B) (da_cons (de_var 0) (da_cons (de_var 1) (da_cons (de_var 3) da_nil))))))
 (ds_one (ds_raise 5 h (B.xc_BadBook)))
 ds_nil)
 (ds_one (ds_ret (de_fn h (ok_holds B) (da_cons (de_var 0) (da_cons (de_var 2) (da_cons (de_var 3) da_nil)))))))))
theorem ok__law_pick {c : Cfg} {mg : Str → Option Value} {base : Heap} (B : Hd c mg) : Fn c mg base "_law_pick" ["_law_town_here", "_law_some"] 2 WP.F__law_pick := by
  obtain ⟨fd, F⟩ := B.sy.d.def_ 15 (d := d__law_pick) rfl
  have S : FnScope ["_law_town_here", "_law_some"] ["_law_town_here", "_law_some"] (defScope (top 27)) := ⟨rfl, rfl, rfl, by decide +kernel, rfl, by decide +kernel, by decide +kernel⟩
  exact Fn.of (N := ["_law_town_here", "_law_some"]) (k := 1) 2 F S B.g__law_pick (F.bindsN fun _ _ _ _ _ _ us hl => match us, hl with | [_, _], _ => rfl) B.bl rfl fun cdv A outer s H E h hp =>
   (ds_one (ds_ret (de_ix h (de_var 1) (de_fn h (ok__law_draw B) (da_cons (de_var 0) (da_cons (de_len h (de_var 1)) da_nil))))))
theorem ok__law_is {c : Cfg} {mg : Str → Option Value} {base : Heap} (B : Hd c mg) : Fn c mg base "_law_is" ["_law_told", "_law_due"] 1 WP.F__law_is := by
  obtain ⟨fd, F⟩ := B.sy.d.def_ 16 (d := d__law_is) rfl
  have S : FnScope ["_law_told", "_law_due"] ["_law_told", "_law_due"] (defScope (top 28)) := ⟨rfl, rfl, rfl, by decide +kernel, rfl, by decide +kernel, by decide +kernel⟩
  exact Fn.of (N := ["_law_told", "_law_due"]) (k := 0) 2 F S B.g__law_is (F.bindsN fun _ _ _ _ _ _ us hl => match us, hl with | [_, _], _ => rfl) B.bl rfl fun cdv A outer s H E h hp =>
   (ds_one (ds_ret (de_and (de_isi_bool h (de_var 0)) (de_one (de_eq h (de_var 0) (de_var 1))))))
theorem ok__law_house {c : Cfg} {mg : Str → Option Value} {base : Heap} (B : Hd c mg) : Fn c mg base "_law_house" ["_law_town_here", "_law_rooms_of", "_law_last"] 2 WP.F__law_house := by
  obtain ⟨fd, F⟩ := B.sy.d.def_ 17 (d := d__law_house) rfl
  have S : FnScope ["_law_town_here", "_law_rooms_of", "_law_last", "_law_doors_of", "_law_closed_ones", "_law_beat", "_law_dark_ones", "_law_k"] ["_law_town_here", "_law_rooms_of", "_law_last"] (defScope (top 29)) := ⟨rfl, rfl, rfl, by decide +kernel, rfl, by decide +kernel, by decide +kernel⟩
  exact Fn.of (N := ["_law_town_here", "_law_rooms_of", "_law_last", "_law_doors_of", "_law_closed_ones", "_law_beat", "_law_dark_ones", "_law_k"]) (k := 1) 8 F S B.g__law_house (F.bindsN fun _ _ _ _ _ _ us hl => match us, hl with | [_, _, _], _ => rfl) B.bl rfl fun cdv A outer s H E h hp =>
   (ds_cons (ds_setLc 3 [("_law_k", 7)] h (di_range1 h (de_sub (de_var 1) de_int)) (blk_of (by kernel_rfl)) (bdName 7) (by decide) (fun _ _ _ _ _ h1 => ⟨(dg_name 7 h1), (dts_one (dt_gt (de_fn h1 (ok__law_draw B) (da_cons (de_var 0) (da_cons de_int da_nil))) de_int)), (de_tup (da_cons (de_var 7) (da_cons (de_add h1 (de_var 7) de_int) da_nil)))⟩))
 (ds_cons (ds_if (dw_and (dt_gt (de_var 1) de_int) (dw_and1 (dt_eq h (de_fn h (ok__law_draw B) (da_cons (de_var 0) (da_cons de_int da_nil))) de_int))).pt
 (ds_one (ds_frz 3 (ds_set 3 h (de_add h (de_own (do_lst (da_cons (de_tup (da_cons de_int (da_cons (de_sub (de_var 1) de_int) da_nil))) da_nil))) (de_var 3)))))
 ds_nil)
 (ds_cons (ds_frz 3 (ds_setO 3 h (do_sorted h (de_var 3))))
 (ds_cons (ds_set 4 h (de_own (do_lst da_nil)))
 (ds_cons (ds_for h hp (di_range1 h (de_add h (de_var 2) de_int)) (dg_name 5 h)
 (ds_one (ds_frz 3 (ds_set 4 h (de_add h (de_var 4) (de_own (do_lc [("_law_k", 7)] h (di_range1 h (de_len h (de_var 3))) (blk_of (by kernel_rfl)) (bdName 7) (by decide) (fun _ _ _ _ _ h2 => ⟨(dg_name 7 h2), (dts_one (dt_eq h2 (de_fn h2 (ok__law_draw B) (da_cons (de_var 0) (da_cons de_int da_nil))) de_int)), (de_tup (da_cons (de_var 5) (da_cons (de_var 7) da_nil)))⟩))))))))
 (ds_cons (ds_set 6 h (de_own (do_lst da_nil)))
 (ds_cons (ds_for h hp (di_range1 h (de_add h (de_var 2) de_int)) (dg_name 5 h)
 (ds_one (ds_set 6 h (de_add h (de_var 6) (de_own (do_lc [("_law_k", 7)] h (di_range1 h (de_var 1)) (blk_of (by kernel_rfl)) (bdName 7) (by decide) (fun _ _ _ _ _ h3 => ⟨(dg_name 7 h3), (dts_one (dt_eq h3 (de_fn h3 (ok__law_draw B) (da_cons (de_var 0) (da_cons de_int da_nil))) de_int)), (de_tup (da_cons (de_var 5) (da_cons (de_var 7) da_nil)))⟩)))))))
 (ds_one (ds_frz 3 (ds_ret (de_tup (da_cons (de_var 1) (da_cons (de_tuple h (de_var 3)) (da_cons (de_var 2) (da_cons (de_tuple h (de_var 4)) (da_cons (de_tuple h (de_var 6)) da_nil))))))))))))))))
theorem ok__law_side {c : Cfg} {mg : Str → Option Value} {base : Heap} (B : Hd c mg) : Fn c mg base "_law_side" ["_law_house_here", "_law_room_here", "_law_beat"] 1 WP.F__law_side := by
  obtain ⟨fd, F⟩ := B.sy.d.def_ 18 (d := d__law_side) rfl
  have S : FnScope ["_law_house_here", "_law_room_here", "_law_beat", "_law_found", "_law_k", "_law_one", "_law_two"] ["_law_house_here", "_law_room_here", "_law_beat"] (defScope (top 30)) := ⟨rfl, rfl, rfl, by decide +kernel, rfl, by decide +kernel, by decide +kernel⟩
  exact Fn.of (N := ["_law_house_here", "_law_room_here", "_law_beat", "_law_found", "_law_k", "_law_one", "_law_two"]) (k := 0) 7 F S B.g__law_side (F.bindsN fun _ _ _ _ _ _ us hl => match us, hl with | [_, _, _], _ => rfl) B.bl rfl fun cdv A outer s H E h hp =>
   (ds_cons (ds_setO 3 h (do_lst da_nil))
 (ds_cons (ds_for h hp (di_range1 h (de_len h (de_ix h (de_var 0) de_int))) (dg_name 4 h)
 (ds_cons (ds_unp h (pn_cons 5 h (pn_cons 6 h pn_nil)) (de_ix h (de_ix h (de_var 0) de_int) (de_var 4)))
 (ds_one (ds_if (dw_and (dt_nin h (de_tup (da_cons (de_var 2) (da_cons (de_var 4) da_nil))) (de_ix h (de_var 0) de_int)) (dw_and1 (dt_in h (de_var 1) (de_tup (da_cons (de_var 5) (da_cons (de_var 6) da_nil)))))).pt
 (ds_one (ds_app 3 h (de_sub (de_add h (de_var 5) (de_var 6)) (de_var 1))))
 ds_nil))))
 (ds_one (ds_frz 3 (ds_ret (de_var 3))))))
theorem ok__law_so {c : Cfg} {mg : Str → Option Value} {base : Heap} (B : Hd c mg) : Fn c mg base "_law_so" ["_law_house_here", "_law_stand_here", "_law_claim_here"] 2 WP.F__law_so := by
  obtain ⟨fd, F⟩ := B.sy.d.def_ 19 (d := d__law_so) rfl
  have S : FnScope ["_law_house_here", "_law_stand_here", "_law_claim_here", "_law_own", "_law_others", "_law_word", "_law_who", "_law_beat", "_law_what", "_law_k"] ["_law_house_here", "_law_stand_here", "_law_claim_here"] (defScope (top 31)) := ⟨rfl, rfl, rfl, by decide +kernel, rfl, by decide +kernel, by decide +kernel⟩
  exact Fn.of (N := ["_law_house_here", "_law_stand_here", "_law_claim_here", "_law_own", "_law_others", "_law_word", "_law_who", "_law_beat", "_law_what", "_law_k"]) (k := 1) 10 F S B.g__law_so (F.bindsN fun _ _ _ _ _ _ us hl => match us, hl with | [_, _, _], _ => rfl) B.bl rfl fun cdv A outer s H E h hp =>
   (ds_cons (ds_unp h (pn_cons 5 h (pn_cons 6 h (pn_cons 7 h (pn_cons 8 h pn_nil)))) (de_var 2))
 (ds_cons (ds_set 3 h (de_ix h (de_var 1) (de_var 6)))
 (ds_cons (ds_if (dt_in h (de_var 5) (de_tup (da_cons de_str (da_cons de_str da_nil))))
 (ds_one (ds_ret (de_eq h (de_eq h (de_var 3) (de_var 8)) (de_eq h (de_var 5) de_str))))
 ds_nil)
 (ds_cons (ds_if (dt_eq h (de_var 5) de_str)
 (ds_one (ds_ret (de_and (de_eq h (de_ix h (de_var 1) (de_var 8)) (de_var 3)) (de_one (de_nin h (de_tup (da_cons (de_var 7) (da_cons (de_var 3) da_nil))) (de_ix h (de_var 0) de_int))))))
 ds_nil)
 (ds_cons (ds_if (dt_eq h (de_var 5) de_str)
 (ds_one (ds_ret (de_ne h (de_ix h (de_var 1) (de_var 8)) (de_var 3))))
 ds_nil)
 (ds_cons (ds_setO 4 h (do_lc [("_law_k", 9)] h (di_range1 h (de_len h (de_var 1))) (blk_of (by kernel_rfl)) (bdName 9) (by decide) (fun _ _ _ _ _ h1 => ⟨(dg_name 9 h1), (dts_one (dt_ne h1 (de_var 9) (de_var 6))), (de_ix h1 (de_var 1) (de_var 9))⟩)))
 (ds_cons (ds_if (dt_eq h (de_var 5) de_str)
 (ds_one (ds_frz 4 (ds_ret (de_nin h (de_var 3) (de_var 4)))))
 ds_nil)
 (ds_one (ds_frz 4 (ds_ret (de_ne h (de_own (do_lc [("_law_k", 9)] h (di_seq h (de_fn h (ok__law_side B) (da_cons (de_var 0) (da_cons (de_var 3) (da_cons (de_var 7) da_nil))))) (blk_of (by kernel_rfl)) (bdName 9) (by decide) (fun _ _ _ _ _ h2 => ⟨(dg_name 9 h2), (dts_one (dt_in h2 (de_var 9) (de_var 4))), (de_var 9)⟩))) (de_own (do_lst da_nil)))))))))))))
theorem ok__law_claim {c : Cfg} {mg : Str → Option Value} {base : Heap} (B : Hd c mg) : Fn c mg base "_law_claim" ["_law_town_here", "_law_house_here", "_law_count"] 3 WP.F__law_claim := by
  obtain ⟨fd, F⟩ := B.sy.d.def_ 20 (d := d__law_claim) rfl
  have S : FnScope ["_law_town_here", "_law_house_here", "_law_count", "_law_word", "_law_who", "_law_beat", "_law_k"] ["_law_town_here", "_law_house_here", "_law_count"] (defScope (top 32)) := ⟨rfl, rfl, rfl, by decide +kernel, rfl, by decide +kernel, by decide +kernel⟩
  exact Fn.of (N := ["_law_town_here", "_law_house_here", "_law_count", "_law_word", "_law_who", "_law_beat", "_law_k"]) (k := 2) 7 F S B.g__law_claim (F.bindsN fun _ _ _ _ _ _ us hl => match us, hl with | [_, _, _], _ => rfl) B.bl rfl fun cdv A outer s H E h hp =>
   (ds_cons (ds_set 3 h (de_fn h (ok__law_pick B) (da_cons (de_var 0) (da_cons (de_own (do_lst (da_cons de_str (da_cons de_str (da_cons de_str (da_cons de_str (da_cons de_str (da_cons de_str da_nil)))))))) da_nil))))
 (ds_cons (ds_unp h (pn_cons 4 h (pn_cons 5 h pn_nil)) (de_tup (da_cons (de_fn h (ok__law_draw B) (da_cons (de_var 0) (da_cons (de_var 2) da_nil))) (da_cons (de_fn h (ok__law_draw B) (da_cons (de_var 0) (da_cons (de_add h (de_ix h (de_var 1) de_int) de_int) da_nil))) da_nil))))
 (ds_cons (ds_if (dt_in h (de_var 3) (de_tup (da_cons de_str (da_cons de_str da_nil))))
 (ds_one (ds_ret (de_tup (da_cons (de_var 3) (da_cons (de_var 4) (da_cons (de_var 5) (da_cons (de_fn h (ok__law_draw B) (da_cons (de_var 0) (da_cons (de_ix h (de_var 1) de_int) da_nil))) da_nil)))))))
 ds_nil)
 (ds_cons (ds_if (dw_or (dt_in h (de_var 3) (de_tup (da_cons de_str (da_cons de_str da_nil)))) (dw_or1 (dt_eq h (de_var 2) de_int))).pt
 (ds_one (ds_ret (de_tup (da_cons (de_if (dt_eq h (de_var 2) de_int) de_str (de_var 3)) (da_cons (de_var 4) (da_cons (de_var 5) (da_cons de_non da_nil)))))))
 ds_nil)
 (ds_one (ds_ret (de_tup (da_cons (de_var 3) (da_cons (de_var 4) (da_cons (de_var 5) (da_cons (de_fn h (ok__law_pick B) (da_cons (de_var 0) (da_cons (de_own (do_lc [("_law_k", 6)] h (di_range1 h (de_var 2)) (blk_of (by kernel_rfl)) (bdName 6) (by decide) (fun _ _ _ _ _ h1 => ⟨(dg_name 6 h1), (dts_one (dt_ne h1 (de_var 6) (de_var 4))), (de_var 6)⟩))) da_nil))) da_nil)))))))))))
theorem ok_law {c : Cfg} {mg : Str → Option Value} (B : Hd c mg) (hf : ∀ ns : List Int, ns.length ≤ 63 → ∃ T', runL nLaw b_law ns = .ok (.bl true) T') : ∃ fd, (∀ (s : Shared) (v : Value), BindsTo s fd ⟨[v], []⟩ [("_law_script", v)]) ∧ ∀ base : Heap, FnOk c.P c.w c.K mg base CX0 6 (He.ga c.K "law") fd ["_law_script"] (spLaw c) := by
  obtain ⟨fd, F⟩ := B.sy.d.def_ 21 (d := d_law) rfl
  have S : FnScope ["_law_script", "_law_town_here", "_law_count", "_law_house_here", "_law_turn_of", "_law_beat", "_law_own", "_law_stand_here", "_law_claim_here", "_law_who", "_law_word", "_law_pair", "_law_told", "_law_one", "_law_k"] ["_law_script"] (defScope (top 33)) := ⟨rfl, rfl, rfl, by decide +kernel, rfl, by decide +kernel, by decide +kernel⟩
  have b := FunD.bindsA (ps := ["_law_script"]) F fun _ _ _ _ _ _ us hl => match us, hl with | [_], _ => rfl
  refine ⟨fd, fun s v => b s [v] rfl, fun base => law_fn (N := ["_law_script", "_law_town_here", "_law_count", "_law_house_here", "_law_turn_of", "_law_beat", "_law_own", "_law_stand_here", "_law_claim_here", "_law_who", "_law_word", "_law_pair", "_law_told", "_law_one", "_law_k"]) (k := 5) F S B.bl rfl (by decide) hf fun cdv A outer s H E h hp => ?_⟩
  exact pss_law h (ok__law_town B) (by decide)
   (ds_cons (ds_set 2 h (de_add h de_int (de_fn h (ok__law_draw B) (da_cons (de_var 1) (da_cons de_int da_nil)))))
 (ds_cons (ds_set 3 h (de_fn h (ok__law_house B) (da_cons (de_var 1) (da_cons (de_add h de_int (de_fn h (ok__law_draw B) (da_cons (de_var 1) (da_cons de_int da_nil)))) (da_cons (de_fn h (ok__law_draw B) (da_cons (de_var 1) (da_cons de_int da_nil))) da_nil)))))
 (ds_cons (ds_if (dt_isnot (de_fn h (ok_is_house B) (da_cons (de_var 3) da_nil)) de_bl)
 (ds_one (ds_ret de_bl))
 ds_nil)
 (ds_cons (ds_for h hp (di_range1 h de_int) (dg_name 4 h)
 (ds_cons (ds_set 5 h (de_fn h (ok__law_draw B) (da_cons (de_var 1) (da_cons (de_add h (de_ix h (de_var 3) de_int) de_int) da_nil))))
 (ds_cons (ds_set 6 h (de_fn h (ok__law_draw B) (da_cons (de_var 1) (da_cons (de_ix h (de_var 3) de_int) da_nil))))
 (ds_cons (ds_if (dt_ne h (de_fn h (ok_next_rooms B) (da_cons (de_var 3) (da_cons (de_var 6) (da_cons (de_var 5) da_nil)))) (de_own (do_sorted h (de_add h (de_own (do_lst (da_cons (de_var 6) da_nil))) (de_fn h (ok__law_side B) (da_cons (de_var 3) (da_cons (de_var 6) (da_cons (de_var 5) da_nil))))))))
 (ds_one (ds_ret de_bl))
 ds_nil)
 (ds_cons (ds_set 7 h (de_tuple h (de_own (do_lc [("_law_k", 14)] h (di_range1 h (de_var 2)) (blk_of (by kernel_rfl)) (bdName 14) (by decide) (fun _ _ _ _ _ h1 => ⟨(dg_name 14 h1), dts_nil, (de_fn h1 (ok__law_draw B) (da_cons (de_var 1) (da_cons (de_ix h1 (de_var 3) de_int) da_nil)))⟩)))))
 (ds_cons (ds_set 8 h (de_fn h (ok__law_claim B) (da_cons (de_var 1) (da_cons (de_var 3) (da_cons (de_var 2) da_nil)))))
 (ds_cons (ds_if (dt_not (dt_val (de_fn h (ok__law_is B) (da_cons (de_fn h (ok_is_so B) (da_cons (de_var 3) (da_cons (de_var 2) (da_cons (de_var 7) (da_cons (de_var 8) da_nil))))) (da_cons (de_fn h (ok__law_so B) (da_cons (de_var 3) (da_cons (de_var 7) (da_cons (de_var 8) da_nil)))) da_nil)))))
 (ds_one (ds_ret de_bl))
 ds_nil)
 (ds_cons (ds_if (dt_gt (de_var 2) de_int)
 (ds_one (ds_for h hp (di_seq h (de_own (do_lst (da_cons de_str (da_cons de_str da_nil))))) (dg_name 10 h)
 (ds_cons (ds_set 11 h (de_own (do_lst (da_cons (de_tup (da_cons (de_var 10) (da_cons de_int (da_cons (de_var 5) (da_cons de_int da_nil))))) (da_cons (de_tup (da_cons (de_var 10) (da_cons de_int (da_cons (de_var 5) (da_cons de_int da_nil))))) da_nil)))))
 (ds_cons (ds_setLc 12 [("_law_one", 13)] h (di_seq h (de_var 11)) (blk_of (by kernel_rfl)) (bdName 13) (by decide) (fun _ _ _ _ _ h2 => ⟨(dg_name 13 h2), dts_nil, (de_fn h2 (ok_is_so B) (da_cons (de_var 3) (da_cons (de_var 2) (da_cons (de_var 7) (da_cons (de_var 13) da_nil)))))⟩))
 (ds_one (ds_frz 12 (ds_if (dw_or (dt_ne h (de_ix h (de_var 12) de_int) (de_ix h (de_var 12) de_int)) (dw_or1 (dt_not (dt_val (de_fn h (ok__law_is B) (da_cons (de_ix h (de_var 12) de_int) (da_cons (de_fn h (ok__law_so B) (da_cons (de_var 3) (da_cons (de_var 7) (da_cons (de_ix h (de_var 11) de_int) da_nil)))) da_nil))))))).pt
 (ds_one (ds_ret de_bl))
 ds_nil)))))))
 ds_nil)
 (ds_one (ds_for h hp (di_range1 h (de_var 2)) (dg_name 9 h)
 (ds_one (ds_for h hp (di_seq h (de_own (do_lst (da_cons de_str (da_cons de_str da_nil))))) (dg_name 10 h)
 (ds_cons (ds_set 13 h (de_tup (da_cons (de_var 10) (da_cons (de_var 9) (da_cons (de_var 5) (da_cons de_non da_nil))))))
 (ds_one (ds_if (dt_not (dt_val (de_fn h (ok__law_is B) (da_cons (de_fn h (ok_is_so B) (da_cons (de_var 3) (da_cons (de_var 2) (da_cons (de_var 7) (da_cons (de_var 13) da_nil))))) (da_cons (de_fn h (ok__law_so B) (da_cons (de_var 3) (da_cons (de_var 7) (da_cons (de_var 13) da_nil)))) da_nil)))))
 (ds_one (ds_ret de_bl))
 ds_nil)))))))))))))))
 (ds_one (ds_ret de_bl))))))
end Wk01
set_option maxHeartbeats 4000000
namespace Wk01
open PySem PySem.Spec L2 WW
def Env1 (m : Int) (h : Hs) (ρ : En) : Prop := ∃ x4 x5 x6 x7 x8 x9 x10 x11 x12 x13, ρ = [none, some (.d (.cell 0)), some (.d (.int m)), some (.d (eH h)), x4, x5, x6, x7, x8, x9, x10, x11, x12, x13, none] ∧ NoOwn x13
def body1 : Sx :=
 (sSeq (sSet 5 (dCall drawM [(dVar 1), (d2 addM (d2 ixM (dVar 3) (dC (.int 2))) (dC (.int 1)))]))
 (sSeq (sSet 6 (dCall drawM [(dVar 1), (d2 ixM (dVar 3) (dC (.int 0)))]))
 (sSeq (sIf (tVal (d2 neM (dCall WP.F_next_rooms [(dVar 3), (dVar 6), (dVar 5)]) (dOwn (oCall (F1 sortM) [(d2 addM (dOwn (oLst [(dVar 6)])) (dCall WP.F__law_side [(dVar 3), (dVar 6), (dVar 5)]))]))))
 (sRet (dC (.bl false)))
 sNil)
 (sSeq (sSet 7 (dCall (F1 tupleM) [(dOwn (oLc (iCall rng1M [(dVar 2)]) (bName 14) tAll (dCall drawM [(dVar 1), (d2 ixM (dVar 3) (dC (.int 0)))]) [14]))]))
 (sSeq (sSet 8 (dCall WP.F__law_claim [(dVar 1), (dVar 3), (dVar 2)]))
 (sSeq (sIf (tNotX (tVal (dCall WP.F__law_is [(dCall WP.F_is_so [(dVar 3), (dVar 2), (dVar 7), (dVar 8)]), (dCall WP.F__law_so [(dVar 3), (dVar 7), (dVar 8)])])))
 (sRet (dC (.bl false)))
 sNil)
 (sSeq (sIf (tVal (d2 gtM (dVar 2) (dC (.int 1))))
 (sFor (iSeq (dOwn (oLst [(dC (.str "saw")), (dC (.str "missed"))]))) (bName 10)
 (sSeq (sSet 11 (dOwn (oLst [(dTup [(dVar 10), (dC (.int 0)), (dVar 5), (dC (.int 1))]), (dTup [(dVar 10), (dC (.int 1)), (dVar 5), (dC (.int 0))])])))
 (sSeq (sSetO 12 (oLc (iSeq (dVar 11)) (bName 13) tAll (dCall WP.F_is_so [(dVar 3), (dVar 2), (dVar 7), (dVar 13)]) [13]))
 (sFrz 12 (sIf (tOrX (tVal (d2 neM (d2 ixM (dVar 12) (dC (.int 0))) (d2 ixM (dVar 12) (dC (.int 1))))) (tNotX (tVal (dCall WP.F__law_is [(d2 ixM (dVar 12) (dC (.int 0))), (dCall WP.F__law_so [(dVar 3), (dVar 7), (d2 ixM (dVar 11) (dC (.int 0)))])]))))
 (sRet (dC (.bl false)))
 sNil)))))
 sNil)
 (sFor (iCall rng1M [(dVar 2)]) (bName 9)
 (sFor (iSeq (dOwn (oLst [(dC (.str "alone")), (dC (.str "heard"))]))) (bName 10)
 (sSeq (sSet 13 (dTup [(dVar 10), (dVar 9), (dVar 5), (dC .non)]))
 (sIf (tNotX (tVal (dCall WP.F__law_is [(dCall WP.F_is_so [(dVar 3), (dVar 2), (dVar 7), (dVar 13)]), (dCall WP.F__law_so [(dVar 3), (dVar 7), (dVar 13)])])))
 (sRet (dC (.bl false)))
 sNil)))))))))))
theorem turn_ok {h : Hs} (hk : WW.HOk h) {m : Int} (m1 : 1 ≤ m) (m2 : m ≤ 4) {x4 x5 x6 x7 x8 x9 x10 x11 x12 x13 : Option SV} (n13 : NoOwn x13) {P : En → Prop} (hP : ∀ ρ, Env1 m h ρ → P ρ) :
    Ok (body1 [none, some (.d (.cell 0)), some (.d (.int m)), some (.d (eH h)), x4, x5, x6, x7, x8, x9, x10, x11, x12, x13, none]) fun fl => ∃ ρ, fl = .nx ρ ∧ P ρ := by
  have k1 := hk.r1
  have k3 := hk.l1
  have k4 := hk.l2
  have k2 := hk.r2
  obtain ⟨Q, hQ⟩ : ∃ Q : Fl → Prop, ∀ fl, Q fl ↔ ∃ ρ, fl = .nx ρ ∧ P ρ := ⟨_, fun _ => Iff.rfl⟩
  refine Ok.mono (P := Q) ?_ fun d hd => (hQ d).mp hd
  unfold body1
  simp
  refine Ok.bind (Ok.draw (by omega) (by omega)) fun d ⟨beat, e, b1, b2⟩ => ?_
  subst e
  try simp
  refine Ok.bind (Ok.draw (by omega) (by omega)) fun d ⟨own, e, o1, o2⟩ => ?_
  subst e
  have sl := side_len hk own beat
  have ai := add_ints [own] (side h own beat) (by simp; omega)
  simp only [List.map_cons, List.map_nil] at ai
  have si := sort_ints (own :: side h own beat)
  rw [List.map_cons] at si
  simp [next_rooms_ok hk o1 o2 b1 (show beat ≤ h.last by omega), law_side_ok hk, ai, si, ne_same]
  rw [rng1_ret (by omega) (by omega)]
  simp only [ret_bind]
  refine Ok.bind (Ok.noX (Ok.lcA (fun k : Nat => D.int (k : Int)) (fun _ d => ∃ r, d = .int r ∧ 0 ≤ r ∧ r < h.rooms) _ fun k hk' => ⟨_, rfl, ?_⟩)) fun ys hys => ?_
  · simp
    exact Ok.draw (by omega) (by omega)
  obtain ⟨st, rfl, stl, str⟩ := all2_ints hys
  have sk : StOk h m st := ⟨by rw [stl, List.length_range]; omega, str⟩
  try simp
  rw [show D.tup (st.map D.int) = eS st from rfl]
  refine Ok.bind (law_claim_ok hk m1 m2) fun d ⟨c, e, ck⟩ => ?_
  subst e
  simp [is_so_ok hk sk m1 m2 ck, law_so_ok hk sk m2 ck, law_is_ok]
  obtain ⟨J, hJ⟩ : ∃ J : Nat → En → Prop, ∀ i ρ, J i ρ ↔ ∃ x9 x10 x11 x12 x13, ρ = [none, some (.d (.cell 0)), some (.d (.int m)), some (.d (eH h)), x4, some (.d (.int beat)), some (.d (.int own)), some (.d (eS st)), some (.d (eC c)), x9, x10, x11, x12, x13, none] ∧ NoOwn x13 := ⟨_, fun _ _ => Iff.rfl⟩
  have b3 : beat ≤ h.last := by omega
  refine Ok.bind (P := fun fl => ∃ ρ, fl = .nx ρ ∧ J 0 ρ) ?_ fun fl ⟨ρ, e, hr⟩ => ?_
  · by_cases h1 : 1 < m
    · rw [if_pos h1]
      refine Ok.mono (Ok.for (fun w : Wd => D.str w.s) J [.saw, .missed] 0 _ (fun i w ρ hw hi => ?_) ((hJ _ _).mpr ⟨_, _, _, _, _, rfl, n13⟩)) fun fl ⟨ρ, e, hr⟩ => ⟨ρ, e, (hJ _ _).mpr ((hJ _ _).mp hr)⟩
      have hww : w = .saw ∨ w = .missed := by
        have := List.mem_of_getElem? hw
        simpa using this
      obtain ⟨x9, x10, x11, x12, x13, rfl, n13⟩ := (hJ _ _).mp hi
      refine ⟨_, rfl, ?_⟩
      have c1 : CmOk h m ⟨w, 0, beat, 1⟩ := ⟨by show (0:Int) ≤ 0; omega, by show (0:Int) < m; omega, b1, b3, by rcases hww with rfl | rfl <;> exact ⟨by show (0:Int) ≤ 1; omega, h1, by show (1:Int) ≠ 0; omega⟩⟩
      have c2 : CmOk h m ⟨w, 1, beat, 0⟩ := ⟨by show (0:Int) ≤ 1; omega, by show (1:Int) < m; omega, b1, b3, by rcases hww with rfl | rfl <;> exact ⟨by show (0:Int) ≤ 0; omega, by show (0:Int) < m; omega, by show (0:Int) ≠ 1; omega⟩⟩
      have e1 : D.tup [.str w.s, .int 0, .int beat, .int 1] = eC ⟨w, 0, beat, 1⟩ := by rcases hww with rfl | rfl <;> rfl
      have e2 : D.tup [.str w.s, .int 1, .int beat, .int 0] = eC ⟨w, 1, beat, 0⟩ := by rcases hww with rfl | rfl <;> rfl
      have hb : holdsB h st ⟨w, 0, beat, 1⟩ = holdsB h st ⟨w, 1, beat, 0⟩ := by
        rcases hww with rfl | rfl
        · simp only [holdsB]
          by_cases q : at_ st 1 = at_ st 0
          · rw [q]
          · have q2 : ¬ at_ st 0 = at_ st 1 := fun z => q z.symm
            rw [beq_eq_false_iff_ne.mpr q, beq_eq_false_iff_ne.mpr q2]; rfl
        · simp only [holdsB]
          by_cases q : at_ st 1 = at_ st 0
          · rw [q]
          · have q2 : ¬ at_ st 0 = at_ st 1 := fun z => q z.symm
            rw [beq_eq_false_iff_ne.mpr q, beq_eq_false_iff_ne.mpr q2]
      have t1 : Ok (M.ret (Fl.nx [none, some (.d (.cell 0)), some (.d (.int m)), some (.d (eH h)), x4, some (.d (.int beat)), some (.d (.int own)), some (.d (eS st)), some (.d (eC c)), x9, some (.d (.str w.s)), some (.d (.lst [eC ⟨w, 0, beat, 1⟩, eC ⟨w, 1, beat, 0⟩])), some (.d (.lst [.bl (holdsB h st ⟨w, 0, beat, 1⟩), .bl (holdsB h st ⟨w, 1, beat, 0⟩)])), x13, none])) fun fl => ∃ ρ2, fl = Fl.nx ρ2 ∧ J (i + 1) ρ2 := Ok.ret ⟨_, rfl, (hJ _ _).mpr ⟨_, _, _, _, _, rfl, n13⟩⟩
      have lc : ∀ ρ0 : En, ρ0[2]? = some (some (.d (.int m))) → ρ0[3]? = some (some (.d (eH h))) → ρ0[7]? = some (some (.d (eS st))) → 13 < ρ0.length → lcM ρ0 (bName 13) tAll (dCall WP.F_is_so [dVar 3, dVar 2, dVar 7, dVar 13]) [eC ⟨w, 0, beat, 1⟩, eC ⟨w, 1, beat, 0⟩] = M.ret [.bl (holdsB h st ⟨w, 0, beat, 1⟩), .bl (holdsB h st ⟨w, 1, beat, 0⟩)] := fun ρ0 h2 h3 h7 h13 => by
        refine lcM_all eC (fun c => .bl (holdsB h st c)) [⟨w, 0, beat, 1⟩, ⟨w, 1, beat, 0⟩] fun c hc => ⟨_, rfl, ?_⟩
        have ck : CmOk h m c := by
          rcases List.mem_cons.mp hc with rfl | hc
          · exact c1
          · rcases List.mem_cons.mp hc with rfl | hc
            · exact c2
            · cases hc
        simp [List.getElem?_set_self h13, List.getElem?_set_ne, h2, h3, h7, is_so_ok hk sk m1 m2 ck]
      rcases n13 with rfl | ⟨d13, rfl⟩
      · simp [e1, e2]
        rw [lc _ rfl rfl rfl (by simp)]
        simp [law_so_ok hk sk m2 c1, law_is_ok, hb]
        rw [hb] at t1
        exact t1
      · simp [e1, e2]
        rw [lc _ rfl rfl rfl (by simp)]
        simp [law_so_ok hk sk m2 c1, law_is_ok, hb]
        rw [hb] at t1
        exact t1
    · rw [if_neg h1]
      exact Ok.ret ⟨_, rfl, (hJ _ _).mpr ⟨_, _, _, _, _, rfl, n13⟩⟩
  subst e
  obtain ⟨x9, x10, x11, x12, x13, rfl, n13⟩ := (hJ _ _).mp hr
  simp
  rw [rng1_ret (by omega) (by omega)]
  simp only [ret_bind]
  refine Ok.mono (Ok.for (fun k : Nat => D.int (k : Int)) J _ 0 _ (fun i k ρ hk' hi => ?_) ((hJ _ _).mpr ⟨_, _, _, _, _, rfl, n13⟩)) fun fl ⟨ρ, e, hr⟩ => ?_
  · obtain ⟨x9, x10, x11, x12, x13, rfl, n13⟩ := (hJ _ _).mp hi
    refine ⟨_, rfl, ?_⟩
    have hkm : (k : Int) < m := by
      have := List.mem_range.mp (List.mem_of_getElem? hk')
      omega
    simp
    have fe : [D.str (Str.ofString "alone"), D.str (Str.ofString "heard")] = [Wd.alone, Wd.heard].map fun w => D.str w.s := rfl
    rw [fe]
    obtain ⟨J2, hJ2⟩ : ∃ J2 : Nat → En → Prop, ∀ i ρ, J2 i ρ ↔ ∃ x10 x11 x12 x13, ρ = [none, some (.d (.cell 0)), some (.d (.int m)), some (.d (eH h)), x4, some (.d (.int beat)), some (.d (.int own)), some (.d (eS st)), some (.d (eC c)), some (.d (.int (k : Int))), x10, x11, x12, x13, none] ∧ NoOwn x13 := ⟨_, fun _ _ => Iff.rfl⟩
    refine Ok.mono (Ok.for (fun w : Wd => D.str w.s) J2 [.alone, .heard] 0 _ (fun i w ρ hw hi => ?_) ((hJ2 _ _).mpr ⟨_, _, _, _, rfl, n13⟩)) fun fl ⟨ρ, e, hr⟩ => ?_
    · have hww : w = .alone ∨ w = .heard := by
        have := List.mem_of_getElem? hw
        simpa using this
      obtain ⟨x10, x11, x12, x13, rfl, n13⟩ := (hJ2 _ _).mp hi
      refine ⟨_, rfl, ?_⟩
      have c1 : CmOk h m ⟨w, k, beat, 0⟩ := ⟨by show (0:Int) ≤ k; omega, hkm, b1, b3, by rcases hww with rfl | rfl <;> trivial⟩
      have e1 : D.tup [.str w.s, .int (k : Int), .int beat, .non] = eC ⟨w, k, beat, 0⟩ := by rcases hww with rfl | rfl <;> rfl
      simp [e1, is_so_ok hk sk m1 m2 c1, law_so_ok hk sk m2 c1, law_is_ok]
      exact Ok.ret ⟨_, rfl, (hJ2 _ _).mpr ⟨_, _, _, _, rfl, .inr ⟨_, rfl⟩⟩⟩
    · obtain ⟨x10, x11, x12, x13, e2, n13⟩ := (hJ2 _ _).mp hr
      exact ⟨ρ, e, (hJ _ _).mpr ⟨_, _, _, _, _, e2, n13⟩⟩
  · obtain ⟨x9, x10, x11, x12, x13, e2, n13⟩ := (hJ _ _).mp hr
    exact (hQ _).mpr ⟨ρ, e, hP _ ⟨_, _, _, _, _, _, _, _, _, _, e2, n13⟩⟩
theorem law_ok : Ok (b_law ((List.replicate nLaw none).set 1 (some (.d (.cell 0)))) >>= endM) fun d => d = .bl true := by
  obtain ⟨P, hP⟩ : ∃ P : D → Prop, ∀ d, P d ↔ d = .bl true := ⟨_, fun _ => Iff.rfl⟩
  refine Ok.mono (P := P) ?_ fun d hd => (hP d).mp hd
  simp only [b_law, nLaw]
  simp
  refine Ok.bind (Ok.draw (by omega) (by omega)) fun d ⟨r, e, r1, r2⟩ => ?_
  subst e
  simp
  refine Ok.bind (Ok.draw (by omega) (by omega)) fun d ⟨R, e, R1, R2⟩ => ?_
  subst e
  simp
  refine Ok.bind (Ok.draw (by omega) (by omega)) fun d ⟨Lt, e, L1, L2⟩ => ?_
  subst e
  refine Ok.bind (law_house_ok (R := 1 + R) (L := Lt) (by omega) (by omega) (by omega) (by omega)) fun d ⟨h, e, hk, hR, hL⟩ => ?_
  subst e
  generalize hm : 1 + r = m
  have m1 : 1 ≤ m := by omega
  have m2 : m ≤ 4 := by omega
  simp [is_house_ok hk]
  rw [rng1_ret (by omega) (by omega)]
  simp only [ret_bind]
  obtain ⟨I, hI⟩ : ∃ I : Nat → En → Prop, ∀ i ρ, I i ρ ↔ ∃ x4 x5 x6 x7 x8 x9 x10 x11 x12 x13, ρ = [none, some (.d (.cell 0)), some (.d (.int m)), some (.d (eH h)), x4, x5, x6, x7, x8, x9, x10, x11, x12, x13, none] ∧ NoOwn x13 := ⟨_, fun _ _ => Iff.rfl⟩
  refine Ok.bind (Ok.for (fun k : Nat => D.int (k : Int)) I _ 0 _ (fun i k ρ hk' hi => ?_) ((hI _ _).mpr ⟨_, _, _, _, _, _, _, _, _, _, rfl, .inl rfl⟩)) fun fl ⟨ρ, e, hr⟩ => ?_
  · obtain ⟨x4, x5, x6, x7, x8, x9, x10, x11, x12, x13, rfl, n13⟩ := (hI _ _).mp hi
    exact ⟨_, rfl, turn_ok hk m1 m2 n13 fun ρ hρ => (hI _ _).mpr hρ⟩
  subst e
  obtain ⟨x4, x5, x6, x7, x8, x9, x10, x11, x12, x13, rfl, n13⟩ := (hI _ _).mp hr
  simp
  exact Ok.ret ((hP _).mpr rfl)
theorem law_true : ∀ ns : List Int, ns.length ≤ 63 → ∃ T', runL nLaw b_law ns = .ok (.bl true) T' := fun ns _ => by
  have v : Vt [.town (first ns) 0] := ⟨_, _, rfl, by unfold first; split <;> simp_all⟩
  obtain ⟨d, T', h1, _, h2⟩ := law_ok _ v
  subst h2
  exact ⟨T', h1⟩
end Wk01
set_option maxHeartbeats 0
namespace Wk01
open PySem PySem.Spec PyProof.Rows L2 WW
abbrev R : PySem.W.OpenRow := PySem.W.OpenLaw.row PySem.Challenge.rw_wherewas_k01_whole_claims
abbrev hk : PySem.W.Hook := hookY 4 fa ts fn
def ob (s : PySem.W.SharedT) : AlY := obsYG 4 fa ts fn (HandSHeadRun.getT s)
theorem ob_eq (s : PySem.W.SharedT) : ob s = hk.obs s.abs := obsYG_eq (HandSHeadRun.getT_eq s)
def nm0 : List PySem.Str := ["WhereError", "BadHouse", "BadBeat", "BadRoom", "BadBook", "is_whole", "MOST_ROOMS", "MOST_LAST", "MOST_FOLK", "WORDS", "are_pairs", "is_house", "look_house", "look_beat", "look_room", "open_doors", "beside", "next_rooms", "is_stand", "is_claim", "holds", "is_so", "_law_town", "_law_draw", "_law_pick", "_law_is", "_law_house", "_law_side", "_law_so", "_law_claim"]
def nms : List PySem.Str := nm0
theorem run (w : World) : HandSHeadRun.RunEq R (PySem.W.view R.prog [33]) hk ob 8000 nms w := by
  intro os
  kernel_rfl
end Wk01
open PySem PySem.W PySem.Calls PyProof.Rows
theorem PySem.Challenge.cw_wherewas_k01_whole_claims_holds : PySem.Challenge.rw_wherewas_k01_whole_claims.Holds := by
  w_on; o_law
  refine HandSHeadRun.head_any (r := OpenLaw.row PySem.Challenge.rw_wherewas_k01_whole_claims) (q := view (OpenLaw.row PySem.Challenge.rw_wherewas_k01_whole_claims).prog [33]) (H := Wk01.hk) (ob := Wk01.ob) (M := 8000) (loose := Wk01.nms) (d := HandSHeadRun.topDef (OpenLaw.row PySem.Challenge.rw_wherewas_k01_whole_claims).prog 33) (kwd := []) Wk01.ob_eq
    (by kernel_rfl) (fun s => by kernel_rfl) Wk01.run (by kernel_rfl) (by kernel_rfl) (by kernel_rfl) (by rfl) (by first | assumption | decide +kernel) (by decide +kernel) ⟨rfl, rfl, rfl, rfl, rfl, by decide +kernel⟩ ?hw ?hc
  case hw => w_witness2
  case hc =>
    refine L2.walk_ofE (l := PySem.Challenge.rw_wherewas_k01_whole_claims) (n := 63) (k := 6) (x := "_law_script") (CX := L2.CX0) rfl (by decide) (by kernel_rfl) ⟨rfl, by decide, by decide⟩ ?F (fun _ _ _ _ z => z)
    intro w mg fa h Y G hmg0
    obtain ⟨K, KX, q⟩ := Y
    have hmg : mg ("law" : PySem.Str) = some (.ref fa) := by
      have e : (HandSHeadRun.topDef (OpenLaw.row PySem.Challenge.rw_wherewas_k01_whole_claims).prog 33).name = ("law" : PySem.Str) := by kernel_rfl
      rw [← e]
      exact hmg0
    have B : Wk01.Hd ⟨(PySem.Challenge.rw_wherewas_k01_whole_claims).prog, w, K, Wk01.caOf K⟩ mg := ⟨q, ⟨h, KX, G⟩, rfl⟩
    have e := hmg.symm.trans B.g_law
    cases e
    obtain ⟨fd, hb, hF⟩ := Wk01.ok_law B Wk01.law_true
    exact ⟨K, fd, WW.spLaw ⟨(PySem.Challenge.rw_wherewas_k01_whole_claims).prog, w, K, Wk01.caOf K⟩, KX, hb, fun H a ns hl _ hS => ⟨a, ns, rfl, hS, hl, fun _ => rfl⟩, fun b _ _ => hF b⟩
