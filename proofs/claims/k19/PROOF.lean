import PyProof.Rows.All
import Wide.All
import OpenK.AllK
import Wide.FinOn
import HandS.ForMost
import HandS.ForExc
import HandS.Walk
import HandS.Defaults
import KE.KeyNested
import HandS.Lambda
import HandS.TupAny
import HandS.Deep
import HandS.TupLe
import HandS.IsInst
import HandS.Conv
import HandS.Flow
import HandS.SortInts
import HandS.SortRule
import HandS.Iter
import KE.GoesEnum
import HandS.Comp
import HandS.ExcOwn
import HandS.Head0
import HandS.Head1
import HandS.Head2
import HandS.HeadEnd
import HandS.HeadHook1
import HandS.HeadHook2
import HandS.List
import HandS.Words
import HandS.Style
import HandS.TupLen
import PyProof.Rows.TupTab
import KE.KDictWalk
import HandS.Small
import HandS.DictComp
import HandS.CallSlots
import HandS.ExcValue
import HandS.ExcIs
import HandS.Zip
import KE.KDictZip
import KE.KItemsList
import KE.KEqDict
import KE.KDictCopyH
import KE.KDictSum
import PyProof.MinMaxWalk
import PyProof.WalkInts
import HandS.SetFor
import HandS.Strs
import HandS.TupMul
import KE.LtData
import PySem.Challenge.RW_wherewas_k19_wishes_refused
set_option Elab.async false
set_option linter.all false
set_option maxRecDepth 100000
set_option autoImplicit false
set_option maxHeartbeats 1000000
namespace WW
open PySem PySem.Spec PyProof.Rows L2
/-- plain data -/
inductive D where
  | non | bl (b : Bool) | int (i : Int) | str (s : Str) | lst (xs : List D) | tup (xs : List D) | dct (ks vs : List D) | exc (k : Nat) | cell (i : Nat)
/-- a thing that calls change -/
inductive Cell where
  | town (ns : List Int) (k : Int)
structure Cfg where
  P : Program
  w : World
  K : PySem.W.Frag
  CA : Nat → Addr
  /-- where the program's one lambda is made: the maker's table of code objects, the lambda's name -/
  tb : Option (Addr × Str)
mutual
def toNK : D → Option NestedKey
  | .non => some .none
  | .bl b => some (.num (if b = true then 1 else 0))
  | .int i => some (.num i)
  | .str s => some (.text s)
  | .tup ds => (toNKs ds).map .tup
  | _ => none
def toNKs : List D → Option (List NestedKey)
  | [] => some []
  | d :: ds => match toNK d, toNKs ds with
    | some k, some r => some (k :: r)
    | _, _ => none
end
/-- a dict with keys of tuples, nested ones too -/
def dictN (P : Program) (w : World) (a : Addr) (es : List (NestedKey × Addr × V)) : HO := .ext fun h => es.length ≤ sizeLine ∧ (a == sysModules) = false ∧ (∀ e ∈ es, e.1.depth ≤ 8) ∧ (es.map (·.1)).Nodup ∧
  ∃ xs : List (NestedKey × Addr × Value), Paired (fun p q => p.1 = q.1 ∧ p.2.1 = q.2.1 ∧ RelV p.2.2 q.2.2) es xs ∧
    ∃ o ds ep, h.get? a = some o ∧ o.ExactDict ∧ o.data = .dict ds ep ∧ ds.toList = xs.map (entryOfKey (nestedKind P w))
/-- a caught exception -/
def excObj (c : Cfg) (k : Nat) (a : Addr) : HO := .ext fun h => ∃ oe vs, h.get? a = some oe ∧ oe.cls = .ref (c.CA k) ∧ oe.dict = none ∧ oe.data = .fields vs
mutual
/-- the value v is the data d, by the frozen heap G -/
inductive Rep (c : Cfg) (L : List (List Addr)) (G : Hp) : V → D → Prop
  | non : Rep c L G .non .non
  | bl (b) : Rep c L G (.bl b) (.bl b)
  | int (i) : Rep c L G (.int i) (.int i)
  | str (s) (h : PyData.strOk s = true) : Rep c L G (.str s) (.str s)
  | lst {a vs ds} : G a = some (.lst vs) → RepL c L G vs ds → ds.length ≤ sizeLine → Rep c L G (.ref a) (.lst ds)
  | tup {a vs ds} : SqT c.K G a vs → RepL c L G vs ds → ds.length ≤ sizeLine → Rep c L G (.ref a) (.tup ds)
  | dk {a ob kvs ks vs} : G a = some (.frz ob (.dK kvs)) → RepL c L G (kvs.map fun p => kV p.1) ks → RepL c L G (kvs.map (·.2)) vs → kvs.length ≤ sizeLine → Rep c L G (.ref a) (.dct ks vs)
  | dn {a ob es ks vs} : G a = some (.frz ob (dictN c.P c.w a es)) → es ≠ [] → RepL c L G (es.map fun e => V.ref e.2.1) ks → ks.map toNK = es.map (fun e => some e.1) →
      RepL c L G (es.map (·.2.2)) vs → es.length ≤ sizeLine → Rep c L G (.ref a) (.dct ks vs)
  | exc {a k} : G a = some (excObj c k a) → Rep c L G (.ref a) (.exc k)
  | cell {a i r} : L[i]? = some (a :: r) → Rep c L G (.ref a) (.cell i)
inductive RepL (c : Cfg) (L : List (List Addr)) (G : Hp) : List V → List D → Prop
  | nil : RepL c L G [] []
  | cons {v vs d ds} : Rep c L G v d → RepL c L G vs ds → RepL c L G (v :: vs) (d :: ds)
end
/-- the cells stay where they are -/
def LE (L L' : List (List Addr)) : Prop := ∀ (i : Nat) (a : Addr) (r : List Addr), L[i]? = some (a :: r) → ∃ r', L'[i]? = some (a :: r')
theorem LE.refl (L : List (List Addr)) : LE L L := fun _ _ r h => ⟨r, h⟩
theorem LE.trans {L L1 L2 : List (List Addr)} (a : LE L L1) (b : LE L1 L2) : LE L L2 := fun i x r h => by
  obtain ⟨r1, h1⟩ := a i x r h
  exact b i x r1 h1
/-- all that is frozen stays so -/
abbrev GE (G G' : Hp) : Prop := Same G G'
theorem sqT_mono {K : PySem.W.Frag} {G G' : Hp} {a : Addr} {xs : List V} (e : Same G G') (h : SqT K G a xs) : SqT K G' a xs := by
  rcases h with (h | ⟨o, h⟩) | h
  · exact .inl (.inl (e _ _ h))
  · exact .inl (.inr ⟨o, e _ _ h⟩)
  · exact .inr h
mutual
theorem Rep.mono {c : Cfg} {L L' : List (List Addr)} {G G' : Hp} (hL : LE L L') (hG : Same G G') : ∀ (d : D) (v : V), Rep c L G v d → Rep c L' G' v d
  | .non, _, h => by cases h; exact .non
  | .bl _, _, h => by cases h; exact .bl _
  | .int _, _, h => by cases h; exact .int _
  | .str _, _, h => by
    cases h with
    | str _ h1 => exact .str _ h1
  | .lst ds, _, h => by
    cases h with
    | lst h1 h2 h3 => exact .lst (hG _ _ h1) (RepL.mono hL hG ds _ h2) h3
  | .tup ds, _, h => by
    cases h with
    | tup h1 h2 h3 => exact .tup (sqT_mono hG h1) (RepL.mono hL hG ds _ h2) h3
  | .dct ks vs, _, h => by
    cases h with
    | dk h1 h2 h3 h4 => exact .dk (hG _ _ h1) (RepL.mono hL hG ks _ h2) (RepL.mono hL hG vs _ h3) h4
    | dn h1 h0 h2 h3 h4 h5 => exact .dn (hG _ _ h1) h0 (RepL.mono hL hG ks _ h2) h3 (RepL.mono hL hG vs _ h4) h5
  | .exc _, _, h => by
    cases h with
    | exc h1 => exact .exc (hG _ _ h1)
  | .cell _, _, h => by
    cases h with
    | cell h1 =>
      obtain ⟨r', h2⟩ := hL _ _ _ h1
      exact .cell h2
theorem RepL.mono {c : Cfg} {L L' : List (List Addr)} {G G' : Hp} (hL : LE L L') (hG : Same G G') : ∀ (ds : List D) (vs : List V), RepL c L G vs ds → RepL c L' G' vs ds
  | [], _, h => by cases h; exact .nil
  | d :: ds, _, h => by
    cases h with
    | cons h1 h2 => exact .cons (Rep.mono hL hG d _ h1) (RepL.mono hL hG ds _ h2)
end
theorem Rep.up {c : Cfg} {L L' : List (List Addr)} {G G' : Hp} {d : D} {v : V} (h : Rep c L G v d) (hL : LE L L') (hG : Same G G') : Rep c L' G' v d := Rep.mono hL hG d v h
theorem RepL.up {c : Cfg} {L L' : List (List Addr)} {G G' : Hp} {d : List D} {v : List V} (h : RepL c L G v d) (hL : LE L L') (hG : Same G G') : RepL c L' G' v d := RepL.mono hL hG d v h
section
variable {c : Cfg} {L : List (List Addr)} {G : Hp}
theorem RepL.length : ∀ {vs : List V} {ds : List D}, RepL c L G vs ds → vs.length = ds.length
  | _, _, .nil => rfl
  | _, _, .cons _ h => by simp [RepL.length h]
theorem RepL.get : ∀ {vs : List V} {ds : List D} {i : Nat} {d : D}, RepL c L G vs ds → ds[i]? = some d → ∃ v, vs[i]? = some v ∧ Rep c L G v d
  | _, _, _, _, .nil, e => by simp at e
  | _, _, 0, _, .cons r _, e => by simp at e; subst e; exact ⟨_, rfl, r⟩
  | _, _, i + 1, d, .cons _ t, e => by
    obtain ⟨v, h1, h2⟩ := RepL.get (i := i) (d := d) t (by simpa using e)
    exact ⟨v, by simpa using h1, h2⟩
theorem RepL.getV : ∀ {vs : List V} {ds : List D} {i : Nat} {v : V}, RepL c L G vs ds → vs[i]? = some v → ∃ d, ds[i]? = some d ∧ Rep c L G v d
  | _, _, _, _, .nil, e => by simp at e
  | _, _, 0, _, .cons r _, e => by simp at e; subst e; exact ⟨_, rfl, r⟩
  | _, _, i + 1, v, .cons _ t, e => by
    obtain ⟨d, h1, h2⟩ := RepL.getV (i := i) (v := v) t (by simpa using e)
    exact ⟨d, by simpa using h1, h2⟩
theorem RepL.append : ∀ {xs ys : List V} {ds es : List D}, RepL c L G xs ds → RepL c L G ys es → RepL c L G (xs ++ ys) (ds ++ es)
  | _, _, _, _, .nil, h => h
  | _, _, _, _, .cons r t, h => .cons r (RepL.append t h)
theorem RepL.snoc {xs : List V} {ds : List D} {v : V} {d : D} (h : RepL c L G xs ds) (r : Rep c L G v d) : RepL c L G (xs ++ [v]) (ds ++ [d]) := h.append (.cons r .nil)
theorem RepL.take : ∀ {xs : List V} {ds : List D} (n : Nat), RepL c L G xs ds → RepL c L G (xs.take n) (ds.take n)
  | _, _, 0, _ => .nil
  | _, _, _ + 1, .nil => .nil
  | _, _, n + 1, .cons r t => .cons r (RepL.take n t)
theorem RepL.drop : ∀ {xs : List V} {ds : List D} (n : Nat), RepL c L G xs ds → RepL c L G (xs.drop n) (ds.drop n)
  | _, _, 0, h => h
  | _, _, _ + 1, .nil => .nil
  | _, _, n + 1, .cons _ t => RepL.drop n t
theorem RepL.set : ∀ {xs : List V} {ds : List D} {v : V} {d : D} (n : Nat), RepL c L G xs ds → Rep c L G v d → RepL c L G (xs.set n v) (ds.set n d)
  | _, _, _, _, _, .nil, _ => .nil
  | _, _, _, _, 0, .cons _ t, h => .cons h t
  | _, _, _, _, n + 1, .cons r t, h => .cons r (RepL.set n t h)
theorem RepL.ints : ∀ {vs : List V} {ns : List Int}, RepL c L G vs (ns.map .int) → vs = ns.map .int
  | _, [], h => by cases h; rfl
  | _, n :: ns, h => by
    cases h with
    | cons h1 h2 => cases h1; rw [RepL.ints h2]; rfl
theorem RepL.bls : ∀ {vs : List V} {bs : List Bool}, RepL c L G vs (bs.map .bl) → vs = bs.map .bl
  | _, [], h => by cases h; rfl
  | _, n :: ns, h => by
    cases h with
    | cons h1 h2 => cases h1; rw [RepL.bls h2]; rfl
theorem repL_ints : ∀ (ns : List Int), RepL c L G (ns.map .int) (ns.map .int)
  | [] => .nil
  | n :: ns => .cons (.int n) (repL_ints ns)
end
/-- what a slot of the def holds: data; a list or a dict that the def alone holds and may change -/
inductive SV where
  | d (x : D) | ol (xs : List D) | od (ks vs : List D)
abbrev En := List (Option SV)
/-- the entry: the cells' addresses, the heap; what is locked -/
structure Gh where
  L0 : List (List Addr)
  H0 : Hp
  G0 : Hp
  lk : List Addr
  xo : List (Addr × HO) := []
def CellRep (H : Hp) : List Addr → Cell → Prop
  | r, .town ns k => ∃ a n, r = [a, n] ∧ H a = some (.lst [.ref n, .int k]) ∧ H n = some (.lst (ns.map .int))
/-- the table at P holds code objects of the name q only, those at cs -/
def TabR (H : Hp) (P : Addr) (q : Str) (cs : List Addr) : Prop := ∃ ps : Array Value, H P = some (.tbl ps) ∧ TriplesOk ps.toList ∧ (∀ (pos : Pos) (cv : Value), codeAmong pos ps.toList = some cv → ∃ x ∈ cs, cv = .ref x) ∧ ∀ x ∈ cs, H x = some (LamX.CodeO x q)
/-- behind the things: the table, if the law needs one -/
def Tail (c : Cfg) (H : Hp) (L : List (List Addr)) : Prop := match c.tb with
  | none => L = []
  | some q => ∃ cs, L = [q.1 :: cs] ∧ TabR H q.1 q.2 cs
inductive StoreRep (c : Cfg) (H : Hp) : List (List Addr) → List Cell → Prop
  | nil {L} : Tail c H L → StoreRep c H L []
  | cons {r L x T} : CellRep H r x → StoreRep c H L T → StoreRep c H (r :: L) (x :: T)
/-- a dict's kind: what may be locked -/
def Lockable : HO → Prop
  | .dK _ => True
  | .ext _ => True
  | _ => False
/-- a dict's content -/
def DRep (c : Cfg) (L : List (List Addr)) (G : Hp) (p : Addr) (o : HO) (ks vs : List D) : Prop :=
  (∃ kvs, o = .dK kvs ∧ RepL c L G (kvs.map fun q => kV q.1) ks ∧ RepL c L G (kvs.map (·.2)) vs ∧ kvs.length ≤ sizeLine) ∨
  ∃ es, o = dictN c.P c.w p es ∧ es ≠ [] ∧ RepL c L G (es.map fun e => V.ref e.2.1) ks ∧ ks.map toNK = es.map (fun e => some e.1) ∧ RepL c L G (es.map (·.2.2)) vs ∧ es.length ≤ sizeLine
def SlotRep (c : Cfg) (L : List (List Addr)) (G H H0 : Hp) : V → SV → Prop
  | v, .d x => Rep c L G v x
  | v, .ol ds => ∃ p vs, v = .ref p ∧ H p = some (.lst vs) ∧ RepL c L G vs ds ∧ ds.length ≤ sizeLine ∧ G p = none ∧ p ∉ L.flatten ∧ H0 p = none
  | v, .od ks vs => ∃ p o, v = .ref p ∧ H p = some o ∧ DRep c L G p o ks vs ∧ G p = none ∧ p ∉ L.flatten ∧ H0 p = none
def Own : SV → Prop
  | .d _ => False
  | _ => True
structure Sta (c : Cfg) (e : Gh) (L : List (List Addr)) (T : List Cell) (G H : Hp) (σ : L2.St) (ρ : En) : Prop where
  sub : ∀ a o, G a = some o → H a = some o ∨ (Lockable o ∧ ∃ ob, H a = some (.frz ob o))
  same : ∀ a o, e.H0 a = some o → a ∉ e.L0.flatten → (a ∉ e.lk → H a = some o) ∧ (a ∈ e.lk → ∃ ob, H a = some (.frz ob o))
  store : StoreRep c H L T
  ldist : L.flatten.Nodup
  lfree : ∀ a ∈ L.flatten, G a = none
  lmem0 : ∀ a ∈ L.flatten, a ∈ e.L0.flatten ∨ e.H0 a = none
  l0free : ∀ a ∈ e.L0.flatten, G a = none
  gnew : ∀ a, G a ≠ none → e.G0 a ≠ none ∨ e.H0 a = none
  l0there : ∀ a ∈ e.L0.flatten, H a ≠ none
  l0h : ∀ a ∈ e.L0.flatten, e.H0 a ≠ none
  len : σ.length = ρ.length
  slot : ∀ (i : Nat) (sv : SV), ρ[i]? = some (some sv) → ∃ v, σ[i]? = some (some v) ∧ SlotRep c L G H e.H0 v sv
  xown : ∀ q ∈ e.xo, H q.1 = some q.2 ∧ G q.1 = none ∧ q.1 ∉ L.flatten ∧ q.1 ∉ e.L0.flatten ∧ e.H0 q.1 = none ∧ ∀ (i : Nat) (sv : SV), ρ[i]? = some (some sv) → Own sv → σ[i]? ≠ some (some (.ref q.1))
  disj : ∀ (i j : Nat) (x y : SV), i ≠ j → ρ[i]? = some (some x) → ρ[j]? = some (some y) → Own x → Own y → σ[i]? ≠ σ[j]?
theorem DRep.mono {c : Cfg} {L L' : List (List Addr)} {G G' : Hp} {p : Addr} {o : HO} {ks vs : List D} (hL : LE L L') (hG : Same G G') (h : DRep c L G p o ks vs) : DRep c L' G' p o ks vs := by
  rcases h with ⟨kvs, h1, h2, h3, h5⟩ | ⟨es, h1, h0, h2, h3, h4, h5⟩
  · exact .inl ⟨kvs, h1, h2.up hL hG, h3.up hL hG, h5⟩
  · exact .inr ⟨es, h1, h0, h2.up hL hG, h3, h4.up hL hG, h5⟩
theorem DRep.rep {c : Cfg} {L : List (List Addr)} {G : Hp} {p : Addr} {o : HO} {ob : Obj} {ks vs : List D} (h : DRep c L G p o ks vs) (hp : G p = some (.frz ob o)) : Rep c L G (.ref p) (.dct ks vs) := by
  rcases h with ⟨kvs, rfl, h2, h3, h5⟩ | ⟨es, rfl, h0, h2, h3, h4, h5⟩
  · exact .dk hp h2 h3 h5
  · exact .dn hp h0 h2 h3 h4 h5
theorem CellRep.keeps {H H' : Hp} {r : List Addr} {x : Cell} (h : CellRep H r x) (k : ∀ a ∈ r, ∀ o, H a = some o → H' a = some o) : CellRep H' r x := by
  cases x with
  | town ns t =>
    obtain ⟨a, n, rfl, h1, h2⟩ := h
    exact ⟨a, n, rfl, k a (by simp) _ h1, k n (by simp) _ h2⟩
theorem Tail.keeps {c : Cfg} {H H' : Hp} {L : List (List Addr)} (h : Tail c H L) (k : ∀ a ∈ L.flatten, ∀ o, H a = some o → H' a = some o) : Tail c H' L := by
  unfold Tail at h ⊢
  cases e : c.tb with
  | none => rw [e] at h; exact h
  | some q =>
    rw [e] at h
    obtain ⟨cs, rfl, ps, h1, h2, h3, h4⟩ := h
    exact ⟨cs, rfl, ps, k _ (by simp) _ h1, h2, h3, fun x hx => k x (by simp [hx]) _ (h4 x hx)⟩
theorem Tail.there {c : Cfg} {H : Hp} {L : List (List Addr)} (h : Tail c H L) : ∀ a ∈ L.flatten, H a ≠ none := by
  unfold Tail at h
  cases e : c.tb with
  | none => rw [e] at h; cases h; intro a ha; simp at ha
  | some q =>
    rw [e] at h
    obtain ⟨cs, rfl, ps, h1, h2, h3, h4⟩ := h
    intro a ha
    simp only [List.flatten_cons, List.flatten_nil, List.append_nil, List.mem_cons] at ha
    rcases ha with rfl | ha
    · rw [h1]; simp
    · rw [h4 a ha]; simp
theorem StoreRep.keeps {c : Cfg} {H H' : Hp} : ∀ {L : List (List Addr)} {T : List Cell}, StoreRep c H L T → (∀ a ∈ L.flatten, ∀ o, H a = some o → H' a = some o) → StoreRep c H' L T
  | _, _, .nil t, k => .nil (t.keeps k)
  | _, _, .cons r t, k => .cons (r.keeps fun a ha => k a (by simp [ha])) (t.keeps fun a ha => k a (by simp only [List.flatten_cons, List.mem_append]; exact .inr ha))
theorem CellRep.there {H : Hp} {r : List Addr} {x : Cell} (h : CellRep H r x) : ∀ a ∈ r, H a ≠ none := by
  cases x with
  | town ns t =>
    obtain ⟨a, n, rfl, h1, h2⟩ := h
    intro b hb
    simp only [List.mem_cons, List.not_mem_nil, or_false] at hb
    rcases hb with rfl | rfl
    · rw [h1]; simp
    · rw [h2]; simp
theorem StoreRep.there {c : Cfg} {H : Hp} : ∀ {L : List (List Addr)} {T : List Cell}, StoreRep c H L T → ∀ a ∈ L.flatten, H a ≠ none
  | _, _, .nil t, a, ha => t.there a ha
  | _, _, .cons r t, a, ha => by
    simp only [List.flatten_cons, List.mem_append] at ha
    rcases ha with ha | ha
    · exact r.there a ha
    · exact t.there a ha
section
variable {c : Cfg} {e : Gh} {L : List (List Addr)} {T : List Cell} {G H : Hp} {σ : L2.St} {ρ : En}
theorem Sta.gnone (S : Sta c e L T G H σ ρ) {p : Addr} (h : H p = none) : G p = none := by
  cases q : G p with
  | none => rfl
  | some o =>
    rcases S.sub p o q with z | ⟨_, ob, z⟩ <;> rw [h] at z <;> cases z
theorem Sta.h0none (S : Sta c e L T G H σ ρ) {p : Addr} (h : H p = none) (hl : p ∉ L.flatten) (hl0 : p ∉ e.L0.flatten) : e.H0 p = none := by
  cases q : e.H0 p with
  | none => rfl
  | some o =>
    obtain ⟨z1, z2⟩ := S.same p o q hl0
    by_cases m : p ∈ e.lk
    · obtain ⟨ob, z⟩ := z2 m
      rw [h] at z; cases z
    · rw [z1 m] at h; cases h
/-- the heap grows by an object that nobody knows of yet; frozen at once or not -/
theorem Sta.grow (S : Sta c e L T G H σ ρ) {p : Addr} {o : HO} (hp : H p = none) : Sta c e L T G (upd H p o) σ ρ := by
  have ne : ∀ {a : Addr} {u : HO}, H a = some u → upd H p o a = some u := fun {a u} h => by rw [upd_ne (ne_of_none h hp)]; exact h
  refine ⟨fun a u h => ?_, fun a u h hl => ?_, S.store.keeps fun a _ u h => ne h, S.ldist, S.lfree, S.lmem0, S.l0free, S.gnew, fun a ha => ?_, S.l0h, S.len, fun i sv h => ?_, fun q hq => ?_, S.disj⟩
  · rcases S.sub a u h with z | ⟨z, ob, y⟩
    · exact .inl (ne z)
    · exact .inr ⟨z, ob, ne y⟩
  · obtain ⟨z1, z2⟩ := S.same a u h hl
    refine ⟨fun m => ne (z1 m), fun m => ?_⟩
    obtain ⟨ob, z⟩ := z2 m
    exact ⟨ob, ne z⟩
  · have q := S.l0there a ha
    cases q2 : H a with
    | none => exact absurd q2 q
    | some u => rw [ne q2]; simp
  · obtain ⟨v, h1, h2⟩ := S.slot i sv h
    refine ⟨v, h1, ?_⟩
    cases sv with
    | d x => exact h2
    | ol ds =>
      obtain ⟨q, vs, rfl, h3, h4⟩ := h2
      exact ⟨q, vs, rfl, ne h3, h4⟩
    | od ks vs =>
      obtain ⟨q, u, rfl, h3, h4⟩ := h2
      exact ⟨q, u, rfl, ne h3, h4⟩
  · obtain ⟨h1, h2⟩ := S.xown q hq
    exact ⟨ne h1, h2⟩
/-- an object that no slot owns is frozen -/
theorem Sta.freeze (S : Sta c e L T G H σ ρ) {p : Addr} {o : HO} (hp : H p = some o) (hg : G p = none) (hl : p ∉ L.flatten) (hl0 : p ∉ e.L0.flatten) (h0 : e.H0 p = none) (hxo : ∀ q ∈ e.xo, q.1 ≠ p)
    (hs : ∀ (i : Nat) (sv : SV), ρ[i]? = some (some sv) → Own sv → σ[i]? ≠ some (some (.ref p))) : Sta c e L T (upd G p o) H σ ρ := by
  have gs : Same G (upd G p o) := fun a u h => by rw [upd_ne (ne_of_none h hg)]; exact h
  refine ⟨fun a u h => ?_, S.same, S.store, S.ldist, fun a ha => ?_, S.lmem0, fun a ha => ?_, fun a ha => ?_, S.l0there, S.l0h, S.len, fun i sv h => ?_, fun q hq => ?_, S.disj⟩
  · by_cases ha : a = p
    · subst ha
      rw [upd_same] at h; cases h
      exact .inl hp
    · rw [upd_ne ha] at h
      exact S.sub a u h
  · rw [upd_ne (show a ≠ p from fun z => hl (z ▸ ha))]; exact S.lfree a ha
  · rw [upd_ne (show a ≠ p from fun z => hl0 (z ▸ ha))]; exact S.l0free a ha
  · by_cases z : a = p
    · subst z; exact .inr h0
    · rw [upd_ne z] at ha; exact S.gnew a ha
  · obtain ⟨v, h1, h2⟩ := S.slot i sv h
    refine ⟨v, h1, ?_⟩
    cases sv with
    | d x => exact h2.up (LE.refl _) gs
    | ol ds =>
      obtain ⟨q, vs, rfl, h3, h4, hz, h5, h6⟩ := h2
      have nq : q ≠ p := fun z => hs i _ h trivial (by rw [h1, z])
      exact ⟨q, vs, rfl, h3, h4.up (LE.refl _) gs, hz, by rw [upd_ne nq]; exact h5, h6⟩
    | od ks vs =>
      obtain ⟨q, u, rfl, h3, h4, h5, h6⟩ := h2
      have nq : q ≠ p := fun z => hs i _ h trivial (by rw [h1, z])
      exact ⟨q, u, rfl, h3, h4.mono (LE.refl _) gs, by rw [upd_ne nq]; exact h5, h6⟩
  · obtain ⟨h1, h2, h3⟩ := S.xown q hq
    exact ⟨h1, by rw [upd_ne (hxo q hq)]; exact h2, h3⟩
theorem Sta.notx (S : Sta c e L T G H σ ρ) {p : Addr} (hp : H p = none) : ∀ q ∈ e.xo, q.1 ≠ p := fun q hq z => by
  have := (S.xown q hq).1
  rw [z, hp] at this
  cases this
theorem Sta.notslot (S : Sta c e L T G H σ ρ) {p : Addr} (hp : H p = none) : ∀ (i : Nat) (sv : SV), ρ[i]? = some (some sv) → Own sv → σ[i]? ≠ some (some (.ref p)) := fun i sv h ow z => by
  obtain ⟨v, h1, h2⟩ := S.slot i sv h
  rw [h1] at z
  cases z
  cases sv with
  | d x => exact ow
  | ol ds =>
    obtain ⟨q, vs, e1, h3, _⟩ := h2
    cases e1
    rw [hp] at h3; cases h3
  | od ks vs =>
    obtain ⟨q, u, e1, h3, _⟩ := h2
    cases e1
    rw [hp] at h3; cases h3
theorem Sta.notcell (S : Sta c e L T G H σ ρ) {p : Addr} (hp : H p = none) : p ∉ L.flatten := fun z => S.store.there p z hp
end
end WW
set_option maxHeartbeats 1000000
namespace WW
open PySem PySem.Spec PyProof.Rows L2
inductive Rs (α : Type) where
  | ok (a : α) (t : List Cell) | exn (k : Nat) (t : List Cell) | bad
def M (α : Type) : Type := List Cell → Rs α
namespace M
def ret {α : Type} (a : α) : M α := fun t => .ok a t
def bnd {α β : Type} (x : M α) (f : α → M β) : M β := fun t => match x t with
  | .ok a t' => f a t'
  | .exn k t' => .exn k t'
  | .bad => .bad
def fail {α : Type} : M α := fun _ => .bad
def rais {α : Type} (k : Nat) : M α := fun t => .exn k t
def ofO {α : Type} : Option α → M α
  | some a => ret a
  | none => fail
end M
instance : Monad M where
  pure := M.ret
  bind := M.bnd
section
variable {α β γ : Type}
@[simp] theorem pure_eq (a : α) : (pure a : M α) = M.ret a := (rfl)
@[simp] theorem ret_bind (a : α) (f : α → M β) : (M.ret a >>= f) = f a := (rfl)
@[simp] theorem fail_bind (f : α → M β) : ((M.fail : M α) >>= f) = M.fail := (rfl)
@[simp] theorem rais_bind (k : Nat) (f : α → M β) : ((M.rais k : M α) >>= f) = M.rais k := (rfl)
theorem bnd_ok {x : M α} {f : α → M β} {t t' : List Cell} {a : α} (h : x t = .ok a t') : (x >>= f) t = f a t' := by
  show M.bnd x f t = _
  unfold M.bnd
  rw [h]
theorem bnd_exn {x : M α} {f : α → M β} {t t' : List Cell} {k : Nat} (h : x t = .exn k t') : (x >>= f) t = .exn k t' := by
  show M.bnd x f t = _
  unfold M.bnd
  rw [h]
theorem bnd_bad {x : M α} {f : α → M β} {t : List Cell} (h : x t = .bad) : (x >>= f) t = .bad := by
  show M.bnd x f t = _
  unfold M.bnd
  rw [h]
theorem bind_assoc' (x : M α) (f : α → M β) (g : β → M γ) : (x >>= f >>= g) = (x >>= fun a => f a >>= g) := by
  funext t
  show (match (match x t with | .ok a t' => f a t' | .exn k t' => .exn k t' | .bad => .bad) with | .ok a t' => g a t' | .exn k t' => Rs.exn k t' | .bad => .bad) = (match x t with | .ok a t' => (match f a t' with | .ok a t' => g a t' | .exn k t' => Rs.exn k t' | .bad => .bad) | .exn k t' => .exn k t' | .bad => .bad)
  cases x t <;> rfl
end
abbrev Ex := En → M D
def PostG {α β : Type} (c : Cfg) (e : Gh) (W : WX) (σ : L2.St) (ρ : En) (R : List (List Addr) → Hp → β → α → Prop) (L : List (List Addr)) (G : Hp) (r : Rs α) (Q : β → Hp → Prop) : Prop :=
  match r with
  | .ok a T' => ∀ v L' G' H', LE L L' → Same G G' → Sta c e L' T' G' H' σ ρ → R L' G' v a → Q v H'
  | .exn k T' => ∀ L' G' H', LE L L' → Same G G' → Sta c e L' T' G' H' σ ρ → W (.ref (c.CA k)) none σ H'
  | .bad => False
def tG {α β : Type} (c : Cfg) (W : WX) (R : List (List Addr) → Hp → β → α → Prop) (f : En → M α) : L2.St → Hp → (β → Hp → Prop) → Prop := fun σ H Q =>
  ∃ e L T G ρ, Sta c e L T G H σ ρ ∧ PostG c e W σ ρ R L G (f ρ T) Q
abbrev tD (c : Cfg) (W : WX) (f : Ex) : TE := tG c W (Rep c) f
abbrev tL (c : Cfg) (W : WX) (f : En → M (List D)) : TA := tG c W (RepL c) f
abbrev tT (c : Cfg) (W : WX) (f : En → M Bool) : TT := tG c W (fun _ _ (b b' : Bool) => b = b') f
section
variable {α β γ δ : Type} {c : Cfg} {e : Gh} {W : WX} {σ : L2.St} {ρ : En} {L L1 : List (List Addr)} {G G1 H : Hp} {T : List Cell}
theorem PostG.up {R : List (List Addr) → Hp → β → α → Prop} {r : Rs α} {Q : β → Hp → Prop} (h : PostG c e W σ ρ R L G r Q) (hL : LE L L1) (hG : Same G G1) : PostG c e W σ ρ R L1 G1 r Q := by
  cases r with
  | ok a T' => exact fun v L' G' H' h1 h2 S r => h v L' G' H' (hL.trans h1) (hG.trans h2) S r
  | exn k T' => exact fun L' G' H' h1 h2 S => h L' G' H' (hL.trans h1) (hG.trans h2) S
  | bad => exact h
theorem PostG.then {R1 : List (List Addr) → Hp → β → α → Prop} {R2 : List (List Addr) → Hp → δ → γ → Prop} {x : M α} {k : α → M γ} {Q : δ → Hp → Prop} (h : PostG c e W σ ρ R2 L G ((x >>= k) T) Q) :
    PostG c e W σ ρ R1 L G (x T) fun v H1 => ∃ L1 T1 G1 a, LE L L1 ∧ Same G G1 ∧ Sta c e L1 T1 G1 H1 σ ρ ∧ R1 L1 G1 v a ∧ x T = .ok a T1 ∧ PostG c e W σ ρ R2 L1 G1 (k a T1) Q := by
  have h' : PostG c e W σ ρ R2 L G (match x T with | .ok a t' => k a t' | .exn k t' => .exn k t' | .bad => .bad) Q := h
  generalize x T = r at h' ⊢
  cases r with
  | ok a T' => exact fun v L' G' H' h1 h2 S q => ⟨L', T', G', a, h1, h2, S, q, rfl, PostG.up h' h1 h2⟩
  | exn k T' => exact h'
  | bad => exact h'
theorem PostG.mono {R : List (List Addr) → Hp → β → α → Prop} {r : Rs α} {Q Q' : β → Hp → Prop} (h : PostG c e W σ ρ R L G r Q) (i : ∀ v H, Q v H → Q' v H) : PostG c e W σ ρ R L G r Q' := by
  cases r with
  | ok a T' => exact fun v L' G' H' h1 h2 S r => i _ _ (h v L' G' H' h1 h2 S r)
  | exn k T' => exact h
  | bad => exact h
theorem tG.mono {R : List (List Addr) → Hp → β → α → Prop} {f : En → M α} {Q Q' : β → Hp → Prop} (h : tG c W R f σ H Q) (i : ∀ v H, Q v H → Q' v H) : tG c W R f σ H Q' := by
  obtain ⟨e, L, T, G, ρ, S, p⟩ := h
  exact ⟨e, L, T, G, ρ, S, p.mono i⟩
/-- one evaluated ahead of what follows -/
theorem tG.one {R1 : List (List Addr) → Hp → β → α → Prop} {R2 : List (List Addr) → Hp → δ → γ → Prop} {f : En → M α} {k : α → En → M γ} {Q : δ → Hp → Prop} (h : tG c W R2 (fun ρ => f ρ >>= fun a => k a ρ) σ H Q) :
    tG c W R1 f σ H fun v H1 => ∃ e L T G ρ a, Sta c e L T G H1 σ ρ ∧ R1 L G v a ∧ PostG c e W σ ρ R2 L G (k a ρ T) Q := by
  obtain ⟨e, L, T, G, ρ, S, p⟩ := h
  refine ⟨e, L, T, G, ρ, S, ?_⟩
  have q := PostG.then (R1 := R1) p
  generalize hr : f ρ T = r at q ⊢
  cases r with
  | ok a T' =>
    intro v L' G' H' h1 h2 S' r
    obtain ⟨L1, T1, G1, a1, h3, h4, S1, r1, e1, p1⟩ := q v L' G' H' h1 h2 S' r
    exact ⟨e, L1, T1, G1, ρ, a1, S1, r1, p1⟩
  | exn k T' => exact q
  | bad => exact q
/-- two -/
theorem tG.two {R1 : List (List Addr) → Hp → β → α → Prop} {β' α' : Type} {R1' : List (List Addr) → Hp → β' → α' → Prop} {R2 : List (List Addr) → Hp → δ → γ → Prop} {f : En → M α} {g : En → M α'} {k : α → α' → En → M γ} {Q : δ → Hp → Prop}
    (up : ∀ {L L' : List (List Addr)} {G G' : Hp} {v : β} {a : α}, R1 L G v a → LE L L' → Same G G' → R1 L' G' v a)
    (h : tG c W R2 (fun ρ => f ρ >>= fun a => g ρ >>= fun b => k a b ρ) σ H Q) :
    tG c W R1 f σ H fun v H1 => tG c W R1' g σ H1 fun u H2 => ∃ e L T G ρ a b, Sta c e L T G H2 σ ρ ∧ R1 L G v a ∧ R1' L G u b ∧ PostG c e W σ ρ R2 L G (k a b ρ T) Q := by
  have q := tG.one (R1 := R1) (k := fun a ρ => g ρ >>= fun b => k a b ρ) h
  obtain ⟨e, L, T, G, ρ, S, p⟩ := q
  refine ⟨e, L, T, G, ρ, S, ?_⟩
  generalize f ρ T = r at p ⊢
  cases r with
  | bad => exact p
  | exn k T' => exact p
  | ok a T' =>
    intro v L' G' H' h1 h2 S' r
    obtain ⟨e1, L1, T1, G1, ρ1, a1, S1, r1, p1⟩ := p v L' G' H' h1 h2 S' r
    refine ⟨e1, L1, T1, G1, ρ1, S1, ?_⟩
    have p2 := PostG.then (R1 := R1') p1
    generalize g ρ1 T1 = r' at p2 ⊢
    cases r' with
    | bad => exact p2
    | exn k T' => exact p2
    | ok b T2 =>
      intro u L2 G2 H2 h3 h4 S2 r2
      obtain ⟨L3, T3, G3, b3, h5, h6, S3, r3, e3, p3⟩ := p2 u L2 G2 H2 h3 h4 S2 r2
      exact ⟨e1, L3, T3, G3, ρ1, a1, b3, S3, up r1 h5 h6, r3, p3⟩
end
section
variable {X : Cx}
theorem _root_.L2.PE.imp {e : Expr} {t t' : TE} (h : PE X e t) (i : ∀ σ H Q, t' σ H Q → t σ H Q) : PE X e t' := ⟨fun pins s σ H Q I q => h.run pins s σ H Q I (i σ H Q q)⟩
theorem _root_.L2.PT.imp {e : Expr} {t t' : TT} (h : PT X e t) (i : ∀ σ H Q, t' σ H Q → t σ H Q) : PT X e t' := ⟨fun pins s σ H Q I q => h.run pins s σ H Q I (i σ H Q q)⟩
theorem _root_.L2.PW.imp {e : Expr} {t t' : TT} (h : PW X e t) (i : ∀ σ H Q, t' σ H Q → t σ H Q) : PW X e t' := ⟨fun wh pins s σ H Q I q => h.run wh pins s σ H Q I (i σ H Q q)⟩
theorem _root_.L2.PA.imp {es : List Expr} {t t' : TA} (h : PA X es t) (i : ∀ σ H Q, t' σ H Q → t σ H Q) : PA X es t' := ⟨fun pos pins s σ H Q I q => h.run pos pins s σ H Q I (i σ H Q q)⟩
theorem _root_.L2.PS.imp {st : Stmt} {t t' : TS} (h : PS X st t) (i : ∀ D σ H, t' D σ H → t D σ H) : PS X st t' := ⟨fun pins s σ H D I q => h.run pins s σ H D I (i D σ H q)⟩
theorem _root_.L2.PSs.imp {st : List Stmt} {t t' : TS} (h : PSs X st t) (i : ∀ D σ H, t' D σ H → t D σ H) : PSs X st t' := ⟨fun pins s σ H D I q => h.run pins s σ H D I (i D σ H q)⟩
end
structure BL (mg : Str → Option Value) : Prop where
  len : mg "len" = none
  isi : mg "isinstance" = none
  all : mg "all" = none
  any : mg "any" = none
  sorted : mg "sorted" = none
  range : mg "range" = none
  list : mg "list" = none
  tuple : mg "tuple" = none
  int : mg "int" = none
  str : mg "str" = none
  bool : mg "bool" = none
  enum : mg "enumerate" = none
  zip : mg "zip" = none
  max : mg "max" = none
  min : mg "min" = none
  sum : mg "sum" = none
  set : mg "set" = none
  dict : mg "dict" = none
  ve : mg "ValueError" = none
structure Ctx (X : Cx) (c : Cfg) (W : WX) (k : Nat) : Prop where
  hP : X.prog = c.P
  hw : X.w = c.w
  hK : X.K = c.K
  calm : X.calm = true
  nd : X.N.Nodup
  room : Room k X.A
  tk : Takes X W
  bl : BL X.mg
def dC (d : D) : Ex := fun _ => M.ret d
def dVar (i : Nat) : Ex := fun ρ => match ρ[i]? with
  | some (some (.d x)) => M.ret x
  | _ => M.fail
def d1 (op : D → M D) (a : Ex) : Ex := fun ρ => a ρ >>= op
def d2 (op : D → D → M D) (a b : Ex) : Ex := fun ρ => a ρ >>= fun x => b ρ >>= fun y => op x y
def dArgs : List Ex → En → M (List D)
  | [] => fun _ => M.ret []
  | a :: r => fun ρ => a ρ >>= fun x => dArgs r ρ >>= fun xs => M.ret (x :: xs)
def dCall (F : List D → M D) (as : List Ex) : Ex := fun ρ => dArgs as ρ >>= F
section
variable {X : Cx} {c : Cfg} {W : WX} {k : Nat} {a b : Expr} {fa fb : Ex} {pos : Pos}
theorem de_int {i : Int} {j : Nat} : PE X (.Constant (.int i) j pos) (tD c W (dC (.int i))) := pe_int.imp fun σ H Q ⟨e, L, T, G, ρ, S, p⟩ => p _ L G H (LE.refl _) (Same.refl _) S (.int i)
theorem de_bl {i : Bool} {j : Nat} : PE X (.Constant (.bool i) j pos) (tD c W (dC (.bl i))) := pe_bl.imp fun σ H Q ⟨e, L, T, G, ρ, S, p⟩ => p _ L G H (LE.refl _) (Same.refl _) S (.bl i)
theorem de_non {j : Nat} : PE X (.Constant .none j pos) (tD c W (dC .non)) := pe_non.imp fun σ H Q ⟨e, L, T, G, ρ, S, p⟩ => p _ L G H (LE.refl _) (Same.refl _) S .non
theorem de_str {s : Str} {j : Nat} (hs : PyData.strOk s = true := by decide +kernel) : PE X (.Constant (.str s) j pos) (tD c W (dC (.str s))) := pe_str.imp fun σ H Q ⟨e, L, T, G, ρ, S, p⟩ => p _ L G H (LE.refl _) (Same.refl _) S (.str s hs)
theorem de_var (i : Nat) {x : Str} (hN : X.N[i]? = some x := by rfl) (hv : Vis X.env.scope x := by first | exact Or.inl rfl | exact Or.inr (Or.inl rfl) | exact Or.inr (Or.inr rfl)) (hd : (x == ("__debug__" : Str)) = false := by decide)
    (hcd : (x == ("__classdict__" : Str)) = false := by decide) : PE X (.Name x pos) (tD c W (dVar i)) := by
  refine (pe_var hN hv hd hcd).imp fun σ H Q ⟨e, L, T, G, ρ, S, p⟩ => ?_
  rcases h : ρ[i]? with _ | _ | sv
  · simp only [dVar, h] at p; exact p.elim
  · simp only [dVar, h] at p; exact p.elim
  · cases sv with
    | d x =>
      simp only [dVar, h] at p
      obtain ⟨v, h1, h2⟩ := S.slot i _ h
      exact ⟨v, h1, p v L G H (LE.refl _) (Same.refl _) S h2⟩
    | ol x => simp only [dVar, h] at p; exact p.elim
    | od x y => simp only [dVar, h] at p; exact p.elim
/-- an operation on two values, as one on data -/
def Op2 (c : Cfg) (r : R2) (op : D → D → M D) : Prop := ∀ (e : Gh) (W : WX) (L : List (List Addr)) (T : List Cell) (G H : Hp) (σ : L2.St) (ρ : En) (x y : V) (a b : D) (Q : VK), Sta c e L T G H σ ρ → Rep c L G x a → Rep c L G y b →
  PostG c e W σ ρ (Rep c) L G (op a b T) Q → r x y H Q
theorem Op2.or {r r' : R2} {op : D → D → M D} (h : Op2 c r op) : Op2 c (fun x y H Q => r x y H Q ∨ r' x y H Q) op := fun e W L T G H σ ρ x y a b Q S rx ry p => .inl (h e W L T G H σ ρ x y a b Q S rx ry p)
theorem de_op {op : Operator} {r : R2} {f : D → D → M D} (ho : OpR X (binaryOp op) r) (h : Op2 c r f) (ha : PE X a (tD c W fa)) (hb : PE X b (tD c W fb)) : PE X (.BinOp a op b pos) (tD c W (d2 f fa fb)) := by
  refine (pe_op ho ha hb).imp fun σ H Q q => (tG.two (R1 := Rep c) (R1' := Rep c) Rep.up q).mono fun v H1 q1 => q1.mono fun u H2 q2 => ?_
  obtain ⟨e, L, T, G, ρ, a, b, S, r1, r2, p⟩ := q2
  exact h e W L T G H2 σ ρ v u a b Q S r1 r2 p
end
end WW
set_option maxHeartbeats 1000000
namespace WW
open PySem PySem.Spec PyProof.Rows L2
mutual
def toPy : D → PyData
  | .non => .none
  | .bl b => .bool b
  | .int i => .int i
  | .str s => .str s
  | .lst xs => .list (toPys xs)
  | .tup xs => .tuple (toPys xs)
  | _ => .dict []
def toPys : List D → List PyData
  | [] => []
  | d :: ds => toPy d :: toPys ds
end
mutual
/-- plain to that depth -/
def okD : D → Nat → Bool
  | .non, _ | .bl _, _ | .int _, _ | .str _, _ => true
  | .lst xs, n => (match n with
    | 0 => false
    | n + 1 => okDs xs n)
  | .tup xs, n => (match n with
    | 0 => false
    | n + 1 => okDs xs n)
  | _, _ => false
def okDs : List D → Nat → Bool
  | [], _ => true
  | d :: ds, n => okD d n && okDs ds n
end
mutual
/-- == of data -/
def eqB : D → D → Bool
  | .non, .non => true
  | .bl a, .bl b => a == b
  | .bl a, .int j => (if a then 1 else 0) == j
  | .int i, .bl b => i == (if b then 1 else 0)
  | .int i, .int j => i == j
  | .str x, .str y => x == y
  | .lst xs, .lst ys => eqBs xs ys
  | .tup xs, .tup ys => eqBs xs ys
  | _, _ => false
def eqBs : List D → List D → Bool
  | [], [] => true
  | x :: xs, y :: ys => eqB x y && eqBs xs ys
  | _, _ => false
end
theorem toPys_map : ∀ ds : List D, toPys ds = ds.map toPy
  | [] => rfl
  | d :: ds => by rw [toPys, toPys_map ds]; rfl
mutual
theorem eqv_toPy : ∀ (x y : D) (m n : Nat), okD x m = true → okD y n = true → PyData.eqv (toPy x) (toPy y) = eqB x y
  | .non, y, _, _, _, h => by cases y <;> first | rfl | simp [okD] at h
  | .bl a, y, _, _, _, h => by cases y <;> first | rfl | simp [okD] at h
  | .int a, y, _, _, _, h => by cases y <;> first | rfl | simp [okD] at h
  | .str a, y, _, _, _, h => by cases y <;> first | rfl | simp [okD] at h
  | .lst xs, y, m, n, hx, h => by
    cases y with
    | lst ys =>
      cases m with
      | zero => simp [okD] at hx
      | succ m =>
        cases n with
        | zero => simp [okD] at h
        | succ n =>
          simp only [okD] at hx h
          simp only [toPy, PyData.eqv, eqB]
          exact eqv_toPys xs ys m n hx h
    | _ => first | rfl | simp [okD] at h
  | .tup xs, y, m, n, hx, h => by
    cases y with
    | tup ys =>
      cases m with
      | zero => simp [okD] at hx
      | succ m =>
        cases n with
        | zero => simp [okD] at h
        | succ n =>
          simp only [okD] at hx h
          simp only [toPy, PyData.eqv, eqB]
          exact eqv_toPys xs ys m n hx h
    | _ => first | rfl | simp [okD] at h
  | .dct _ _, _, _, _, h, _ => by simp [okD] at h
  | .exc _, _, _, _, h, _ => by simp [okD] at h
  | .cell _, _, _, _, h, _ => by simp [okD] at h
theorem eqv_toPys : ∀ (xs ys : List D) (m n : Nat), okDs xs m = true → okDs ys n = true → PyData.eqvAll (toPys xs) (toPys ys) = eqBs xs ys
  | [], [], _, _, _, _ => rfl
  | [], _ :: _, _, _, _, _ => rfl
  | _ :: _, [], _, _, _, _ => rfl
  | x :: xs, y :: ys, m, n, hx, hy => by
    simp only [okDs, Bool.and_eq_true] at hx hy
    simp only [toPys, PyData.eqvAll, eqBs]
    rw [eqv_toPy x y m n hx.1 hy.1, eqv_toPys xs ys m n hx.2 hy.2]
end
section
variable {c : Cfg} {L : List (List Addr)} {G H : Hp}
/-- what is frozen stands in the heap -/
def Sub (G H : Hp) : Prop := ∀ a o, G a = some o → H a = some o ∨ (Lockable o ∧ ∃ ob, H a = some (.frz ob o))
theorem Sub.lst (s : Sub G H) {a : Addr} {vs : List V} (h : G a = some (.lst vs)) : H a = some (.lst vs) := by
  rcases s a _ h with z | ⟨z, _⟩
  · exact z
  · exact z.elim
theorem Sub.sqT (s : Sub G H) {K : PySem.W.Frag} {a : Addr} {vs : List V} (h : SqT K G a vs) : SqT K H a vs := by
  rcases h with (h | ⟨o, h⟩) | h
  · rcases s a _ h with z | ⟨z, _⟩
    · exact .inl (.inl z)
    · exact z.elim
  · rcases s a _ h with z | ⟨z, _⟩
    · exact .inl (.inr ⟨o, z⟩)
    · exact z.elim
  · exact .inr h
mutual
theorem rep_dp (s : Sub G H) : ∀ (d : D) (v : V) (n : Nat), Rep c L G v d → okD d n = true → Dp c.K H v (toPy d) ∧ (toPy d).canLay0 = true ∧ (toPy d).depth ≤ n
  | .non, _, n, h, _ => by cases h; exact ⟨.non, rfl, Nat.zero_le _⟩
  | .bl b, _, n, h, _ => by cases h; exact ⟨.bl b, rfl, Nat.zero_le _⟩
  | .int b, _, n, h, _ => by cases h; exact ⟨.int b, rfl, Nat.zero_le _⟩
  | .str b, _, n, h, _ => by
    cases h with
    | str _ h1 => exact ⟨.str b, by simp only [toPy, PyData.canLay0]; exact h1, by simp only [toPy, PyData.depth]; exact Nat.zero_le _⟩
  | .lst ds, _, n, h, k => by
    cases h with
    | lst h1 h2 h3 =>
      cases n with
      | zero => simp [okD] at k
      | succ n =>
        simp only [okD] at k
        obtain ⟨q1, q2, q3⟩ := rep_dps s ds _ n h2 k
        exact ⟨.lst (.of (s.lst h1)) q1, by simp only [toPy, PyData.canLay0]; exact q2, by simp only [toPy, PyData.depth]; omega⟩
  | .tup ds, _, n, h, k => by
    cases h with
    | tup h1 h2 h3 =>
      cases n with
      | zero => simp [okD] at k
      | succ n =>
        simp only [okD] at k
        obtain ⟨q1, q2, q3⟩ := rep_dps s ds _ n h2 k
        exact ⟨.tup (s.sqT h1) q1, by simp only [toPy, PyData.canLay0]; exact q2, by simp only [toPy, PyData.depth]; omega⟩
  | .dct _ _, _, _, _, h => by simp [okD] at h
  | .exc _, _, _, _, h => by simp [okD] at h
  | .cell _, _, _, _, h => by simp [okD] at h
theorem rep_dps (s : Sub G H) : ∀ (ds : List D) (vs : List V) (n : Nat), RepL c L G vs ds → okDs ds n = true → DpAll c.K H vs (toPys ds) ∧ PyData.canLayAll0 (toPys ds) = true ∧ PyData.depthAll (toPys ds) ≤ n
  | [], _, n, h, _ => by cases h; exact ⟨.nil, rfl, Nat.zero_le _⟩
  | d :: ds, _, n, h, k => by
    cases h with
    | cons h1 h2 =>
      simp only [okDs, Bool.and_eq_true] at k
      obtain ⟨p1, p2, p3⟩ := rep_dp s d _ n h1 k.1
      obtain ⟨q1, q2, q3⟩ := rep_dps s ds _ n h2 k.2
      exact ⟨.cons p1 q1, by simp only [toPys, PyData.canLayAll0, Bool.and_eq_true]; exact ⟨p2, q2⟩, by simp only [toPys, PyData.depthAll]; omega⟩
end
theorem rep_shaped (s : Sub G H) {d : D} {v : V} (h : Rep c L G v d) (k : okD d 64 = true) : Dp c.K H v (toPy d) ∧ SeqAt.shaped (toPy d) = true := by
  obtain ⟨h1, h2, h3⟩ := rep_dp s d v 64 h k
  exact ⟨h1, by unfold SeqAt.shaped; rw [h2, decide_eq_true h3]; rfl⟩
end
def eqM (a b : D) : M D := if okD a 64 && okD b 64 then M.ret (.bl (eqB a b)) else M.fail
def neM (a b : D) : M D := if okD a 64 && okD b 64 then M.ret (.bl (!eqB a b)) else M.fail
def addM : D → D → M D
  | .int i, .int j => M.ret (.int (i + j))
  | .lst xs, .lst ys => if xs.length + ys.length ≤ sizeLine then M.ret (.lst (xs ++ ys)) else M.fail
  | .tup xs, .tup ys => if xs.length + ys.length ≤ sizeLine then M.ret (.tup (xs ++ ys)) else M.fail
  | _, _ => M.fail
def subM : D → D → M D
  | .int i, .int j => M.ret (.int (i - j))
  | _, _ => M.fail
def mulM : D → D → M D
  | .int i, .int j => if (-(2 ^ 64) < i ∧ i < 2 ^ 64) ∨ (-(2 ^ 64) < j ∧ j < 2 ^ 64) then M.ret (.int (i * j)) else M.fail
  | .lst xs, .int k => if (-(2 ^ 63) ≤ k ∧ k < 2 ^ 63) ∧ xs.length * k.toNat ≤ sizeLine then M.ret (.lst (List.replicate k.toNat xs).flatten) else M.fail
  | _, _ => M.fail
def modM : D → D → M D
  | .int i, .int j => if 0 < j then M.ret (.int (i % j)) else M.fail
  | _, _ => M.fail
def divM : D → D → M D
  | .int i, .int j => if 0 < j ∧ j < 1073741824 then M.ret (.int (i / j)) else M.fail
  | _, _ => M.fail
def powM : D → D → M D
  | .int i, .int j => if 0 ≤ j ∧ j ≤ 1000000 ∧ i.natAbs < 2 ^ 64 then M.ret (.int (i ^ j.toNat)) else M.fail
  | _, _ => M.fail
/-- ints alone -/
def intsOf : List D → Option (List Int)
  | [] => some []
  | .int i :: r => (intsOf r).map (i :: ·)
  | _ => none
theorem intsOf_some : ∀ {ds : List D} {ns : List Int}, intsOf ds = some ns → ds = ns.map .int
  | [], ns, h => by simp [intsOf] at h; subst h; rfl
  | d :: ds, ns, h => by
    cases d with
    | int i =>
      simp only [intsOf] at h
      cases q : intsOf ds with
      | none => rw [q] at h; simp at h
      | some r => rw [q] at h; simp at h; subst h; rw [intsOf_some q]; rfl
    | _ => simp [intsOf] at h
@[simp] theorem intsOf_map : ∀ ns : List Int, intsOf (ns.map .int) = some ns
  | [] => rfl
  | n :: ns => by simp [intsOf, intsOf_map ns]
def ltM : D → D → M D
  | .int i, .int j => M.ret (.bl (decide (i < j)))
  | .tup xs, .tup ys => (match intsOf xs, intsOf ys with
    | some a, some b => M.ret (.bl (HT.lexLt a b))
    | _, _ => M.fail)
  | _, _ => M.fail
def leM : D → D → M D
  | .int i, .int j => M.ret (.bl (decide (i ≤ j)))
  | _, _ => M.fail
def gtM : D → D → M D
  | .int i, .int j => M.ret (.bl (decide (j < i)))
  | _, _ => M.fail
def geM : D → D → M D
  | .int i, .int j => M.ret (.bl (decide (j ≤ i)))
  | _, _ => M.fail
def inM0 (neg : Bool) (x : D) : D → M D
  | .lst ys => if okD x 64 && okD (.lst ys) 64 then M.ret (.bl (xor neg (ys.any fun z => eqB z x))) else M.fail
  | .tup ys => if okD x 64 && okD (.tup ys) 64 then M.ret (.bl (xor neg (ys.any fun z => eqB z x))) else M.fail
  | _ => M.fail
def isNoneM (neg : Bool) : D → M D := fun d => M.ret (.bl (xor neg (match d with | .non => true | _ => false)))
def ixM0 : D → D → M D
  | .lst xs, .int i => M.ofO (atI xs i)
  | .tup xs, .int i => M.ofO (atI xs i)
  | _, _ => M.fail
def truM : D → M Bool
  | .non => M.ret false
  | .bl b => M.ret b
  | .int i => M.ret (i != 0)
  | .lst xs => M.ret (!xs.isEmpty)
  | .tup xs => M.ret (!xs.isEmpty)
  | _ => M.fail
/-- a truth value, no other -/
def blM : D → M Bool
  | .bl b => M.ret b
  | _ => M.fail
def isiD (T : String) : D → M D
  | .non => M.ret (.bl false)
  | .bl _ => M.ret (.bl (T == "int" || T == "bool"))
  | .int _ => M.ret (.bl (T == "int"))
  | .str _ => M.ret (.bl (T == "str"))
  | .lst _ => M.ret (.bl (T == "list"))
  | .tup _ => M.ret (.bl (T == "tuple"))
  | _ => M.fail
def lenM0 : D → M D
  | .lst xs => M.ret (.int xs.length)
  | .tup xs => M.ret (.int xs.length)
  | _ => M.fail
def blsOf : List D → Option (List Bool)
  | [] => some []
  | .bl i :: r => (blsOf r).map (i :: ·)
  | _ => none
theorem blsOf_some : ∀ {ds : List D} {ns : List Bool}, blsOf ds = some ns → ds = ns.map .bl
  | [], ns, h => by simp [blsOf] at h; subst h; rfl
  | d :: ds, ns, h => by
    cases d with
    | bl i =>
      simp only [blsOf] at h
      cases q : blsOf ds with
      | none => rw [q] at h; simp at h
      | some r => rw [q] at h; simp at h; subst h; rw [blsOf_some q]; rfl
    | _ => simp [blsOf] at h
@[simp] theorem blsOf_map : ∀ ns : List Bool, blsOf (ns.map .bl) = some ns
  | [] => rfl
  | n :: ns => by simp [blsOf, blsOf_map ns]
def allM : D → M D
  | .lst xs => (match blsOf xs with
    | some bs => M.ret (.bl (bs.all id))
    | none => M.fail)
  | _ => M.fail
def anyM : D → M D
  | .lst xs => (match blsOf xs with
    | some bs => M.ret (.bl (bs.any id))
    | none => M.fail)
  | _ => M.fail
/-- a sort that the kernel can run -/
def insB {α : Type} (le : α → α → Bool) (x : α) : List α → List α
  | [] => [x]
  | y :: ys => if le x y = true then x :: y :: ys else y :: insB le x ys
def isrt {α : Type} (le : α → α → Bool) : List α → List α
  | [] => []
  | x :: xs => insB le x (isrt le xs)
theorem insB_perm {α : Type} {le : α → α → Bool} (x : α) : ∀ ys : List α, (insB le x ys).Perm (x :: ys)
  | [] => .refl _
  | y :: ys => by
    unfold insB
    split
    · exact .refl _
    · exact ((insB_perm x ys).cons y).trans (.swap x y ys)
theorem isrt_perm {α : Type} (le : α → α → Bool) : ∀ xs : List α, (isrt le xs).Perm xs
  | [] => .refl _
  | x :: xs => (insB_perm x _).trans ((isrt_perm le xs).cons x)
theorem insB_sorted {α : Type} {le : α → α → Bool} (tr : ∀ a b d, le a b = true → le b d = true → le a d = true) (tot : ∀ a b, (le a b || le b a) = true) (x : α) : ∀ ys : List α, ys.Pairwise (fun a b => le a b = true) → (insB le x ys).Pairwise (fun a b => le a b = true)
  | [], _ => by unfold insB; exact List.pairwise_singleton _ _
  | y :: ys, h => by
    have hy : ∀ z ∈ ys, le y z = true := fun z hz => List.rel_of_pairwise_cons h hz
    unfold insB
    split
    · rename_i q
      refine List.Pairwise.cons (fun z hz => ?_) h
      rcases List.mem_cons.mp hz with e | hz
      · rw [e]; exact q
      · exact tr _ _ _ q (hy z hz)
    · rename_i q
      have q2 : le y x = true := by
        have t := tot x y
        rw [Bool.or_eq_true] at t
        exact t.resolve_left q
      refine List.Pairwise.cons (fun z hz => ?_) (insB_sorted tr tot x ys (List.Pairwise.of_cons h))
      rcases List.mem_cons.mp ((insB_perm x ys).mem_iff.mp hz) with e | hz
      · rw [e]; exact q2
      · exact hy z hz
theorem isrt_sorted {α : Type} {le : α → α → Bool} (tr : ∀ a b d, le a b = true → le b d = true → le a d = true) (tot : ∀ a b, (le a b || le b a) = true) : ∀ xs : List α, (isrt le xs).Pairwise (fun a b => le a b = true)
  | [] => .nil
  | x :: xs => insB_sorted tr tot x _ (isrt_sorted tr tot xs)
def isort (ns : List Int) : List Int := isrt (fun a b => decide (a ≤ b)) ns
def tupleM : D → M D
  | .lst xs => M.ret (.tup xs)
  | .tup xs => M.ret (.tup xs)
  | _ => M.fail
end WW
set_option maxHeartbeats 1000000
namespace WW
open PySem PySem.Spec PyProof.Rows L2
section
variable {c : Cfg} {e : Gh} {W : WX} {σ : L2.St} {ρ : En} {L : List (List Addr)} {G H : Hp} {T : List Cell}
theorem Sta.subS (S : Sta c e L T G H σ ρ) : Sub G H := S.sub
theorem Sta.notcell0 (S : Sta c e L T G H σ ρ) {p : Addr} (hp : H p = none) : p ∉ e.L0.flatten := fun z => S.l0there p z hp
/-- a new object, frozen at once -/
theorem Sta.new (S : Sta c e L T G H σ ρ) {p : Addr} (hp : H p = none) (o : HO) : Sta c e L T (upd G p o) (upd H p o) σ ρ :=
  (S.grow hp).freeze upd_same (S.gnone hp) (S.notcell hp) (S.notcell0 hp) (S.h0none hp (S.notcell hp) (S.notcell0 hp)) (S.notx hp) (S.notslot hp)
theorem same_upd {G : Hp} {p : Addr} {o : HO} (h : G p = none) : Same G (upd G p o) := fun b u q => by rw [upd_ne (ne_of_none q h)]; exact q
/-- a plain value is handed on -/
theorem PostG.val {d : D} {v : V} {Q : VK} (p : PostG c e W σ ρ (Rep c) L G (M.ret d T) Q) (S : Sta c e L T G H σ ρ) (r : Rep c L G v d) : Q v H := p v L G H (LE.refl _) (Same.refl _) S r
/-- a new list is handed on, frozen -/
theorem PostG.newL {ds : List D} {vs : List V} {Q : VK} (p : PostG c e W σ ρ (Rep c) L G (M.ret (.lst ds) T) Q) (S : Sta c e L T G H σ ρ) (r : RepL c L G vs ds) (hz : ds.length ≤ sizeLine) :
    ∀ a, H a = none → Q (.ref a) (upd H a (.lst vs)) := fun a ha =>
  p _ L _ _ (LE.refl _) (same_upd (S.gnone ha)) (S.new ha _) (.lst upd_same (r.up (LE.refl _) (same_upd (S.gnone ha))) hz)
theorem PostG.newT {ds : List D} {vs : List V} {Q : VK} (p : PostG c e W σ ρ (Rep c) L G (M.ret (.tup ds) T) Q) (S : Sta c e L T G H σ ρ) (r : RepL c L G vs ds) (hz : ds.length ≤ sizeLine) :
    ∀ a, H a = none → Q (.ref a) (upd H a (.tup vs)) := fun a ha =>
  p _ L _ _ (LE.refl _) (same_upd (S.gnone ha)) (S.new ha _) (.tup (.of upd_same) (r.up (LE.refl _) (same_upd (S.gnone ha))) hz)
theorem PostG.bad {α β : Type} {R : List (List Addr) → Hp → β → α → Prop} {Q : β → Hp → Prop} {A : Prop} (p : PostG c e W σ ρ R L G Rs.bad Q) : A := False.elim p
end
section
variable {c : Cfg}
theorem op2_I {g : Int → Int → D} {g' : Int → Int → V} {f : D → D → M D} (h : ∀ i j, f (.int i) (.int j) = M.ret (g i j)) (hr : ∀ (L : List (List Addr)) (G : Hp) i j, Rep c L G (g' i j) (g i j))
    (hf : ∀ a b, (∀ i j, ¬ (a = .int i ∧ b = .int j)) → f a b = M.fail) : Op2 c (rI0 g') f := by
  intro e W L T G H σ ρ x y a b Q S rx ry p
  by_cases q : ∃ i j, a = .int i ∧ b = .int j
  · obtain ⟨i, j, rfl, rfl⟩ := q
    cases rx; cases ry
    rw [h] at p
    exact ⟨i, j, rfl, rfl, p.val S (hr _ _ i j)⟩
  · rw [hf a b fun i j z => q ⟨i, j, z⟩] at p
    exact p.bad
theorem op2_add : Op2 c (fun x y H Q => rI0 (fun i j => .int (i + j)) x y H Q ∨ rCat x y H Q ∨ rCatA c.K x y H Q) addM := by
  intro e W L T G H σ ρ x y a b Q S rx ry p
  cases a with
  | int i =>
    cases b with
    | int j =>
      cases rx; cases ry
      exact .inl ⟨i, j, rfl, rfl, p.val S (.int _)⟩
    | _ => exact p.bad
  | lst xs =>
    cases b with
    | lst ys =>
      cases rx with
      | @lst _ vs _ h1 h2 h3 =>
        cases ry with
        | @lst _ ws _ k1 k2 k3 =>
          simp only [addM] at p
          by_cases z : xs.length + ys.length ≤ sizeLine
          · rw [if_pos z] at p
            exact .inr (.inl ⟨_, _, vs, ws, rfl, rfl, S.subS.lst h1, S.subS.lst k1, by rw [h2.length, k2.length]; exact z, p.newL S (h2.append k2) (by rw [List.length_append]; exact z)⟩)
          · rw [if_neg z] at p
            exact p.bad
    | _ => exact p.bad
  | tup xs =>
    cases b with
    | tup ys =>
      have rx' := rx
      have ry' := ry
      cases rx with
      | @tup ax vs _ h1 h2 h3 =>
        cases ry with
        | @tup ay ws _ k1 k2 k3 =>
          simp only [addM] at p
          by_cases z : xs.length + ys.length ≤ sizeLine
          · rw [if_pos z] at p
            refine .inr (.inr ⟨ax, ay, vs, ws, rfl, rfl, S.subS.sqT h1, S.subS.sqT k1, by rw [h2.length, k2.length]; exact z, fun e => ?_, fun _ e => ?_, fun _ _ => p.newT S (h2.append k2) (by rw [List.length_append]; exact z)⟩)
            · subst e
              cases h2
              exact p.val S ry'
            · subst e
              cases k2
              rw [List.append_nil] at p
              exact p.val S rx'
          · rw [if_neg z] at p
            exact p.bad
    | _ => exact p.bad
  | _ => exact p.bad
theorem op2_sub : Op2 c (rI0 fun i j => .int (i - j)) subM := op2_I (g := fun i j => .int (i - j)) (fun _ _ => rfl) (fun _ _ _ _ => .int _) fun a b h => by
  cases a <;> first | rfl | (cases b <;> first | rfl | exact absurd ⟨rfl, rfl⟩ (h _ _))
theorem op2_mod : Op2 c (rI (fun _ j => 0 < j) fun i j => .int (i % j)) modM := by
  intro e W L T G H σ ρ x y a b Q S rx ry p
  cases a with
  | int i =>
    cases b with
    | int j =>
      cases rx; cases ry
      simp only [modM] at p
      by_cases z : 0 < j
      · rw [if_pos z] at p
        exact ⟨i, j, rfl, rfl, z, p.val S (.int _)⟩
      · rw [if_neg z] at p
        exact p.bad
    | _ => exact p.bad
  | _ => exact p.bad
theorem op2_div : Op2 c (rI CDiv fun i j => .int (i / j)) divM := by
  intro e W L T G H σ ρ x y a b Q S rx ry p
  cases a with
  | int i =>
    cases b with
    | int j =>
      cases rx; cases ry
      simp only [divM] at p
      by_cases z : 0 < j ∧ j < 1073741824
      · rw [if_pos z] at p
        exact ⟨i, j, rfl, rfl, z, p.val S (.int _)⟩
      · rw [if_neg z] at p
        exact p.bad
    | _ => exact p.bad
  | _ => exact p.bad
theorem op2_pow : Op2 c (rI CPow fun i j => .int (i ^ j.toNat)) powM := by
  intro e W L T G H σ ρ x y a b Q S rx ry p
  cases a with
  | int i =>
    cases b with
    | int j =>
      cases rx; cases ry
      simp only [powM] at p
      by_cases z : 0 ≤ j ∧ j ≤ 1000000 ∧ i.natAbs < 2 ^ 64
      · rw [if_pos z] at p
        exact ⟨i, j, rfl, rfl, z, p.val S (.int _)⟩
      · rw [if_neg z] at p
        exact p.bad
    | _ => exact p.bad
  | _ => exact p.bad
theorem repL_rep {L : List (List Addr)} {G : Hp} {vs : List V} {ds : List D} (h : RepL c L G vs ds) : ∀ k : Nat, RepL c L G (List.replicate k vs).flatten (List.replicate k ds).flatten
  | 0 => .nil
  | k + 1 => by
    rw [List.replicate_succ, List.replicate_succ, List.flatten_cons, List.flatten_cons]
    exact h.append (repL_rep h k)
theorem len_rep {α : Type} (xs : List α) : ∀ k : Nat, (List.replicate k xs).flatten.length = xs.length * k
  | 0 => rfl
  | k + 1 => by rw [List.replicate_succ, List.flatten_cons, List.length_append, len_rep xs k, Nat.mul_succ, Nat.add_comm]
theorem op2_mul : Op2 c (fun x y H Q => rI CMul (fun i j => .int (i * j)) x y H Q ∨ rRep x y H Q) mulM := by
  intro e W L T G H σ ρ x y a b Q S rx ry p
  cases a with
  | int i =>
    cases b with
    | int j =>
      cases rx; cases ry
      simp only [mulM] at p
      by_cases z : (-(2 ^ 64) < i ∧ i < 2 ^ 64) ∨ (-(2 ^ 64) < j ∧ j < 2 ^ 64)
      · rw [if_pos z] at p
        exact .inl ⟨i, j, rfl, rfl, z, p.val S (.int _)⟩
      · rw [if_neg z] at p
        exact p.bad
    | _ => exact p.bad
  | lst xs =>
    cases b with
    | int k =>
      cases rx with
      | @lst ax vs _ h1 h2 h3 =>
        cases ry
        simp only [mulM] at p
        by_cases z : (-(2 ^ 63) ≤ k ∧ k < 2 ^ 63) ∧ xs.length * k.toNat ≤ sizeLine
        · rw [if_pos z] at p
          refine .inr ⟨ax, k, vs, rfl, rfl, S.subS.lst h1, z.1.1, z.1.2, by rw [h2.length]; exact z.2, p.newL S (repL_rep h2 _) ?_⟩
          rw [len_rep]; exact z.2
        · rw [if_neg z] at p
          exact p.bad
    | _ => exact p.bad
  | _ => exact p.bad
theorem and_split {a b : Bool} (h : (a && b) = true) : a = true ∧ b = true := by cases a <;> cases b <;> simp_all
theorem op2_eq : Op2 c (rEqD c.K) eqM := by
  intro e W L T G H σ ρ x y a b Q S rx ry p
  unfold eqM at p
  by_cases z : (okD a 64 && okD b 64) = true
  · rw [if_pos z] at p
    obtain ⟨za, zb⟩ := and_split z
    obtain ⟨h1, h2⟩ := rep_shaped S.subS rx za
    obtain ⟨k1, k2⟩ := rep_shaped S.subS ry zb
    refine ⟨toPy a, toPy b, h1, k1, h2, k2, ?_⟩
    rw [eqv_toPy a b 64 64 za zb]
    exact p.val S (.bl _)
  · rw [if_neg z] at p
    exact p.bad
theorem op2_ne : Op2 c (rNeD c.K) neM := by
  intro e W L T G H σ ρ x y a b Q S rx ry p
  unfold neM at p
  by_cases z : (okD a 64 && okD b 64) = true
  · rw [if_pos z] at p
    obtain ⟨za, zb⟩ := and_split z
    obtain ⟨h1, h2⟩ := rep_shaped S.subS rx za
    obtain ⟨k1, k2⟩ := rep_shaped S.subS ry zb
    refine ⟨toPy a, toPy b, h1, k1, h2, k2, ?_⟩
    rw [eqv_toPy a b 64 64 za zb]
    exact p.val S (.bl _)
  · rw [if_neg z] at p
    exact p.bad
theorem op2_lt : Op2 c (fun x y H Q => rI0 (fun i j => .bl (decide (i < j))) x y H Q ∨ rLtT c.K x y H Q) ltM := by
  intro e W L T G H σ ρ x y a b Q S rx ry p
  cases a with
  | int i =>
    cases b with
    | int j =>
      cases rx; cases ry
      exact .inl ⟨i, j, rfl, rfl, p.val S (.bl _)⟩
    | _ => exact p.bad
  | tup xs =>
    cases b with
    | tup ys =>
      cases rx with
      | @tup ax vs _ h1 h2 h3 =>
        cases ry with
        | @tup ay ws _ k1 k2 k3 =>
          simp only [ltM] at p
          cases q1 : intsOf xs with
          | none => rw [q1] at p; exact p.bad
          | some ns =>
            cases q2 : intsOf ys with
            | none => rw [q1, q2] at p; exact p.bad
            | some ms =>
              rw [q1, q2] at p
              have e1 := intsOf_some q1
              have e2 := intsOf_some q2
              subst e1 e2
              rw [h2.ints] at h1
              rw [k2.ints] at k1
              exact .inr ⟨ax, ay, ns, ms, rfl, rfl, S.subS.sqT h1, S.subS.sqT k1, p.val S (.bl _)⟩
    | _ => exact p.bad
  | _ => exact p.bad
theorem op2_le : Op2 c (rI0 fun i j => .bl (decide (i ≤ j))) leM := op2_I (g := fun i j => .bl (decide (i ≤ j))) (fun _ _ => rfl) (fun _ _ _ _ => .bl _) fun a b h => by
  cases a <;> first | rfl | (cases b <;> first | rfl | exact absurd ⟨rfl, rfl⟩ (h _ _))
theorem op2_gt : Op2 c (rI0 fun i j => .bl (decide (j < i))) gtM := op2_I (g := fun i j => .bl (decide (j < i))) (fun _ _ => rfl) (fun _ _ _ _ => .bl _) fun a b h => by
  cases a <;> first | rfl | (cases b <;> first | rfl | exact absurd ⟨rfl, rfl⟩ (h _ _))
theorem op2_ge : Op2 c (rI0 fun i j => .bl (decide (j ≤ i))) geM := op2_I (g := fun i j => .bl (decide (j ≤ i))) (fun _ _ => rfl) (fun _ _ _ _ => .bl _) fun a b h => by
  cases a <;> first | rfl | (cases b <;> first | rfl | exact absurd ⟨rfl, rfl⟩ (h _ _))
end
def rInS (K : PySem.W.Frag) (neg : Bool) : R2 := fun x y H Q => ∃ d ds, Dp K H x d ∧ (Dp K H y (.list ds) ∨ Dp K H y (.tuple ds)) ∧ SeqAt.shaped d = true ∧ PyData.canLayAll0 ds = true ∧ Q (.bl (xor neg (ds.any fun z => PyData.eqv z d))) H
theorem op_inS {X : Cx} (hu : X.A.units + 65 < cLine) : OpR X (compareOp .In) (rInS X.K false) := by
  intro pins s σ H x y v u Q I rx ry h
  obtain ⟨d, ds, hd, he, sd, se, q⟩ := h
  rw [Bool.false_xor] at q
  obtain ⟨as, r1⟩ := Dp.reads I d x v hd rx
  rcases he with he | he
  · obtain ⟨bs, r2⟩ := Dp.reads I _ y u he ry
    exact SeqAt.in_list_reads r2 r1 se (SeqAt.canLay_of_shaped sd) (room_in_shaped sd hu) ⟨.bl _, H, I, rfl, q⟩
  · obtain ⟨bs, r2⟩ := Dp.reads I _ y u he ry
    exact SeqAt.in_tuple_reads r2 r1 se (SeqAt.canLay_of_shaped sd) (room_in_shaped sd hu) ⟨.bl _, H, I, rfl, q⟩
theorem op_notInS {X : Cx} (hu : X.A.units + 65 < cLine) : OpR X (compareOp .NotIn) (rInS X.K true) := by
  intro pins s σ H x y v u Q I rx ry h
  obtain ⟨d, ds, hd, he, sd, se, q⟩ := h
  rw [Bool.true_xor] at q
  obtain ⟨as, r1⟩ := Dp.reads I d x v hd rx
  rcases he with he | he
  · obtain ⟨bs, r2⟩ := Dp.reads I _ y u he ry
    exact SeqAt.notIn_list_reads r2 r1 se (SeqAt.canLay_of_shaped sd) (room_in_shaped sd hu) ⟨.bl _, H, I, rfl, q⟩
  · obtain ⟨bs, r2⟩ := Dp.reads I _ y u he ry
    exact SeqAt.notIn_tuple_reads r2 r1 se (SeqAt.canLay_of_shaped sd) (room_in_shaped sd hu) ⟨.bl _, H, I, rfl, q⟩
section
variable {c : Cfg}
theorem any_toPy {x : D} (hx : okD x 64 = true) : ∀ {ys : List D} {n : Nat}, okDs ys n = true → ((toPys ys).any fun z => PyData.eqv z (toPy x)) = ys.any fun z => eqB z x
  | [], _, _ => rfl
  | y :: ys, n, h => by
    simp only [okDs, Bool.and_eq_true] at h
    simp only [toPys, List.any_cons]
    rw [eqv_toPy y x n 64 h.1 hx, any_toPy hx h.2]
theorem op2_in (neg : Bool) : Op2 c (rInS c.K neg) (inM0 neg) := by
  intro e W L T G H σ ρ x y a b Q S rx ry p
  cases b with
  | lst ys =>
    simp only [inM0] at p
    by_cases z : (okD a 64 && okD (.lst ys) 64) = true
    · rw [if_pos z] at p
      obtain ⟨za, zb⟩ := and_split z
      obtain ⟨h1, h2⟩ := rep_shaped S.subS rx za
      obtain ⟨k1, k2⟩ := rep_shaped S.subS ry zb
      have k3 := SeqAt.canLay_of_shaped k2
      simp only [toPy, PyData.canLay0] at k3
      simp only [okD] at zb
      refine ⟨toPy a, toPys ys, h1, .inl k1, h2, k3, ?_⟩
      rw [any_toPy za zb]
      exact p.val S (.bl _)
    · rw [if_neg z] at p
      exact p.bad
  | tup ys =>
    simp only [inM0] at p
    by_cases z : (okD a 64 && okD (.tup ys) 64) = true
    · rw [if_pos z] at p
      obtain ⟨za, zb⟩ := and_split z
      obtain ⟨h1, h2⟩ := rep_shaped S.subS rx za
      obtain ⟨k1, k2⟩ := rep_shaped S.subS ry zb
      have k3 := SeqAt.canLay_of_shaped k2
      simp only [toPy, PyData.canLay0] at k3
      simp only [okD] at zb
      refine ⟨toPy a, toPys ys, h1, .inr k1, h2, k3, ?_⟩
      rw [any_toPy za zb]
      exact p.val S (.bl _)
    · rw [if_neg z] at p
      exact p.bad
  | _ => exact p.bad
theorem op2_ix : Op2 c (fun x y H Q => rIxL c.K x y H Q ∨ rIxT c.K x y H Q) ixM0 := by
  intro e W L T G H σ ρ x y a b Q S rx ry p
  cases a with
  | lst xs =>
    cases b with
    | int i =>
      cases rx with
      | @lst ax vs _ h1 h2 h3 =>
        cases ry
        simp only [ixM0] at p
        cases q : atI xs i with
        | none => rw [q] at p; exact p.bad
        | some d =>
          rw [q] at p
          have q' := q
          unfold atI at q'
          cases q2 : ixN xs.length i with
          | none => rw [q2] at q'; cases q'
          | some j =>
            rw [q2] at q'
            obtain ⟨v, hv, rv⟩ := h2.get (i := j) q'
            refine .inl ⟨ax, vs, i, v, rfl, rfl, .of (S.subS.lst h1), ?_, p.val S rv⟩
            unfold atI
            rw [h2.length, q2]
            exact hv
    | _ => exact p.bad
  | tup xs =>
    cases b with
    | int i =>
      cases rx with
      | @tup ax vs _ h1 h2 h3 =>
        cases ry
        simp only [ixM0] at p
        cases q : atI xs i with
        | none => rw [q] at p; exact p.bad
        | some d =>
          rw [q] at p
          have q' := q
          unfold atI at q'
          cases q2 : ixN xs.length i with
          | none => rw [q2] at q'; cases q'
          | some j =>
            rw [q2] at q'
            obtain ⟨v, hv, rv⟩ := h2.get (i := j) q'
            refine .inr ⟨ax, vs, i, v, rfl, rfl, S.subS.sqT h1, ?_, p.val S rv⟩
            unfold atI
            rw [h2.length, q2]
            exact hv
    | _ => exact p.bad
  | _ => exact p.bad
end
end WW
set_option maxHeartbeats 1000000
namespace WW
open PySem PySem.Spec PyProof.Rows L2
abbrev Tx := En → M Bool
def tVal (f : Ex) : Tx := fun ρ => f ρ >>= blM
def tTru (f : Ex) : Tx := fun ρ => f ρ >>= truM
def tNotX (f : Tx) : Tx := fun ρ => f ρ >>= fun b => M.ret (!b)
def tAndX (f g : Tx) : Tx := fun ρ => f ρ >>= fun b => if b = true then g ρ else M.ret false
def tOrX (f g : Tx) : Tx := fun ρ => f ρ >>= fun b => if b = true then M.ret true else g ρ
def dNot (f : Ex) : Ex := fun ρ => f ρ >>= blM >>= fun b => M.ret (.bl (!b))
def dAnd (f g : Ex) : Ex := fun ρ => f ρ >>= blM >>= fun b => if b = true then g ρ else M.ret (.bl false)
def dOr (f g : Ex) : Ex := fun ρ => f ρ >>= blM >>= fun b => if b = true then M.ret (.bl true) else g ρ
def dIf (t : Tx) (f g : Ex) : Ex := fun ρ => t ρ >>= fun b => if b = true then f ρ else g ρ
/-- a op b op' c -/
def dChain (o o' : D → D → M D) (f g h : Ex) : Ex := fun ρ => f ρ >>= fun x => g ρ >>= fun y => o x y >>= blM >>= fun b => if b = true then h ρ >>= fun z => o' y z else M.ret (.bl false)
def dTup (as : List Ex) : Ex := fun ρ => dArgs as ρ >>= fun xs => if xs.length ≤ sizeLine then M.ret (.tup xs) else M.fail
/-- a new list that only the taker knows -/
abbrev Ox := En → M (List D)
def oLst (as : List Ex) : Ox := fun ρ => dArgs as ρ >>= fun xs => if xs.length ≤ sizeLine then M.ret xs else M.fail
def dOwn (f : Ox) : Ex := fun ρ => f ρ >>= fun xs => M.ret (.lst xs)
structure FreshL (c : Cfg) (e : Gh) (L : List (List Addr)) (G H : Hp) (σ : L2.St) (ρ : En) (p : Addr) (ds : List D) : Prop where
  at_ : ∃ vs, H p = some (.lst vs) ∧ RepL c L G vs ds ∧ ds.length ≤ sizeLine
  g : G p = none
  l : p ∉ L.flatten
  l0 : p ∉ e.L0.flatten
  h0 : e.H0 p = none
  xo : ∀ q ∈ e.xo, q.1 ≠ p
  sl : ∀ (i : Nat) (sv : SV), ρ[i]? = some (some sv) → Own sv → σ[i]? ≠ some (some (.ref p))
/-- like tD, of a new list -/
def tO (c : Cfg) (W : WX) (f : Ox) : TE := fun σ H Q => ∃ e L T G ρ, Sta c e L T G H σ ρ ∧
  match f ρ T with
  | .ok ds T' => ∀ p L' G' H', LE L L' → Same G G' → Sta c e L' T' G' H' σ ρ → FreshL c e L' G' H' σ ρ p ds → Q (.ref p) H'
  | .exn k T' => ∀ L' G' H', LE L L' → Same G G' → Sta c e L' T' G' H' σ ρ → W (.ref (c.CA k)) none σ H'
  | .bad => False
theorem tO_eq {c : Cfg} {W : WX} {f : Ox} {σ : L2.St} {H : Hp} {Q : VK} : tO c W f σ H Q ↔ ∃ e L T G ρ, Sta c e L T G H σ ρ ∧
  match f ρ T with
  | .ok ds T' => ∀ p L' G' H', LE L L' → Same G G' → Sta c e L' T' G' H' σ ρ → FreshL c e L' G' H' σ ρ p ds → Q (.ref p) H'
  | .exn k T' => ∀ L' G' H', LE L L' → Same G G' → Sta c e L' T' G' H' σ ρ → W (.ref (c.CA k)) none σ H'
  | .bad => False := Iff.rfl
section
variable {X : Cx} {c : Cfg} {W : WX} {k : Nat} {a b cc : Expr} {fa fb fc : Ex} {ta tb : Tx} {pos : Pos}
theorem Ctx.units (h : Ctx X c W k) : X.A.units + 65 < cLine := by
  have := h.room.un
  omega
theorem de_add (h : Ctx X c W k) (ha : PE X a (tD c W fa)) (hb : PE X b (tD c W fb)) : PE X (.BinOp a .Add b pos) (tD c W (d2 addM fa fb)) :=
  de_op (OpR.or op_add (OpR.or op_cat (h.hK ▸ op_catA))) op2_add ha hb
theorem de_sub (ha : PE X a (tD c W fa)) (hb : PE X b (tD c W fb)) : PE X (.BinOp a .Sub b pos) (tD c W (d2 subM fa fb)) := de_op op_sub op2_sub ha hb
theorem de_mul (ha : PE X a (tD c W fa)) (hb : PE X b (tD c W fb)) : PE X (.BinOp a .Mult b pos) (tD c W (d2 mulM fa fb)) := de_op (OpR.or op_mul op_rep) op2_mul ha hb
theorem de_mod (ha : PE X a (tD c W fa)) (hb : PE X b (tD c W fb)) : PE X (.BinOp a .Mod b pos) (tD c W (d2 modM fa fb)) := de_op op_mod op2_mod ha hb
theorem de_div (ha : PE X a (tD c W fa)) (hb : PE X b (tD c W fb)) : PE X (.BinOp a .FloorDiv b pos) (tD c W (d2 divM fa fb)) := de_op op_fdiv op2_div ha hb
theorem de_pow (ha : PE X a (tD c W fa)) (hb : PE X b (tD c W fb)) : PE X (.BinOp a .Pow b pos) (tD c W (d2 powM fa fb)) := de_op op_pow op2_pow ha hb
theorem de_cmp {op : CmpOp} {r : R2} {f : D → D → M D} (ho : OpR X (compareOp op) r) (h : Op2 c r f) (hm : behindInMarks op b = false) (ha : PE X a (tD c W fa)) (hb : PE X b (tD c W fb)) : PE X (.Compare a [op] [b] pos) (tD c W (d2 f fa fb)) := by
  refine (pe_cmpR ho ha hb hm).imp fun σ H Q q => (tG.two (R1 := Rep c) (R1' := Rep c) Rep.up q).mono fun v H1 q1 => q1.mono fun u H2 q2 => ?_
  obtain ⟨e, L, T, G, ρ, a, b, S, r1, r2, p⟩ := q2
  exact h e W L T G H2 σ ρ v u a b Q S r1 r2 p
/-- the end of a test by value -/
theorem test_end {e : Gh} {σ : L2.St} {ρ : En} {L : List (List Addr)} {G : Hp} {T : List Cell} {Q : Bool → Hp → Prop} {x : M D} (p : PostG c e W σ ρ (fun _ _ (b b' : Bool) => b = b') L G ((x >>= blM) T) Q) :
    PostG c e W σ ρ (Rep c) L G (x T) fun x H' => ∃ k, x = .bl k ∧ Q k H' := by
  refine (PostG.then (R1 := Rep c) p).mono fun v H1 q => ?_
  obtain ⟨L1, T1, G1, a, h1, h2, S, r, e1, p1⟩ := q
  cases a with
  | bl z =>
    cases r
    exact ⟨z, rfl, p1 z L1 G1 H1 (LE.refl _) (Same.refl _) S rfl⟩
  | _ => exact p1.bad
theorem dt_cmp {op : CmpOp} {r : R2} {f : D → D → M D} (ho : OpR X (compareOp op) r) (h : Op2 c r f) (hm : behindInMarks op b = false) (ha : PE X a (tD c W fa)) (hb : PE X b (tD c W fb)) : PT X (.Compare a [op] [b] pos) (tT c W (tVal (d2 f fa fb))) := by
  refine (pt_cmpR ho ha hb hm).imp fun σ H Q q => ?_
  have q' : tT c W (fun ρ => fa ρ >>= fun x => fb ρ >>= fun y => f x y >>= blM) σ H Q := by
    have e : (tVal (d2 f fa fb)) = fun ρ => fa ρ >>= fun x => fb ρ >>= fun y => f x y >>= blM := by
      funext ρ
      unfold tVal d2
      rw [bind_assoc']
      congr 1
      funext x
      rw [bind_assoc']
    rw [← e]; exact q
  refine (tG.two (R1 := Rep c) (R1' := Rep c) Rep.up q').mono fun v H1 q1 => q1.mono fun u H2 q2 => ?_
  obtain ⟨e, L, T, G, ρ, a, b, S, r1, r2, p⟩ := q2
  exact h e W L T G H2 σ ρ v u a b _ S r1 r2 (test_end p)
theorem nom (b : Expr) {op : CmpOp} (h : op ≠ .In := by decide) (h2 : op ≠ .NotIn := by decide) : behindInMarks op b = false := nomark b h h2
theorem de_eq (h : Ctx X c W k) (ha : PE X a (tD c W fa)) (hb : PE X b (tD c W fb)) : PE X (.Compare a [.Eq] [b] pos) (tD c W (d2 eqM fa fb)) := de_cmp (op_eqD (by have := h.units; omega)) (h.hK ▸ op2_eq) (nom b) ha hb
theorem de_ne (h : Ctx X c W k) (ha : PE X a (tD c W fa)) (hb : PE X b (tD c W fb)) : PE X (.Compare a [.NotEq] [b] pos) (tD c W (d2 neM fa fb)) := de_cmp (op_neD (by have := h.units; omega)) (h.hK ▸ op2_ne) (nom b) ha hb
theorem dt_eq (h : Ctx X c W k) (ha : PE X a (tD c W fa)) (hb : PE X b (tD c W fb)) : PT X (.Compare a [.Eq] [b] pos) (tT c W (tVal (d2 eqM fa fb))) := dt_cmp (op_eqD (by have := h.units; omega)) (h.hK ▸ op2_eq) (nom b) ha hb
theorem dt_ne (h : Ctx X c W k) (ha : PE X a (tD c W fa)) (hb : PE X b (tD c W fb)) : PT X (.Compare a [.NotEq] [b] pos) (tT c W (tVal (d2 neM fa fb))) := dt_cmp (op_neD (by have := h.units; omega)) (h.hK ▸ op2_ne) (nom b) ha hb
theorem opLt (h : Ctx X c W k) : OpR X (compareOp .Lt) (fun x y H Q => rI0 (fun i j => .bl (decide (i < j))) x y H Q ∨ rLtT c.K x y H Q) := OpR.or op_lt (h.hK ▸ op_ltT h.room.units0)
theorem de_lt (h : Ctx X c W k) (ha : PE X a (tD c W fa)) (hb : PE X b (tD c W fb)) : PE X (.Compare a [.Lt] [b] pos) (tD c W (d2 ltM fa fb)) := de_cmp (opLt h) op2_lt (nom b) ha hb
theorem dt_lt (h : Ctx X c W k) (ha : PE X a (tD c W fa)) (hb : PE X b (tD c W fb)) : PT X (.Compare a [.Lt] [b] pos) (tT c W (tVal (d2 ltM fa fb))) := dt_cmp (opLt h) op2_lt (nom b) ha hb
theorem de_le (ha : PE X a (tD c W fa)) (hb : PE X b (tD c W fb)) : PE X (.Compare a [.LtE] [b] pos) (tD c W (d2 leM fa fb)) := de_cmp op_le op2_le (nom b) ha hb
theorem dt_le (ha : PE X a (tD c W fa)) (hb : PE X b (tD c W fb)) : PT X (.Compare a [.LtE] [b] pos) (tT c W (tVal (d2 leM fa fb))) := dt_cmp op_le op2_le (nom b) ha hb
theorem de_gt (ha : PE X a (tD c W fa)) (hb : PE X b (tD c W fb)) : PE X (.Compare a [.Gt] [b] pos) (tD c W (d2 gtM fa fb)) := de_cmp op_gt op2_gt (nom b) ha hb
theorem dt_gt (ha : PE X a (tD c W fa)) (hb : PE X b (tD c W fb)) : PT X (.Compare a [.Gt] [b] pos) (tT c W (tVal (d2 gtM fa fb))) := dt_cmp op_gt op2_gt (nom b) ha hb
theorem de_ge (ha : PE X a (tD c W fa)) (hb : PE X b (tD c W fb)) : PE X (.Compare a [.GtE] [b] pos) (tD c W (d2 geM fa fb)) := de_cmp op_ge op2_ge (nom b) ha hb
theorem dt_ge (ha : PE X a (tD c W fa)) (hb : PE X b (tD c W fb)) : PT X (.Compare a [.GtE] [b] pos) (tT c W (tVal (d2 geM fa fb))) := dt_cmp op_ge op2_ge (nom b) ha hb
theorem de_in0 (h : Ctx X c W k) (ha : PE X a (tD c W fa)) (hb : PE X b (tD c W fb)) (hm : behindInMarks .In b = false := by rfl) : PE X (.Compare a [.In] [b] pos) (tD c W (d2 (inM0 false) fa fb)) := de_cmp (op_inS h.units) (h.hK ▸ op2_in false) hm ha hb
theorem dt_in0 (h : Ctx X c W k) (ha : PE X a (tD c W fa)) (hb : PE X b (tD c W fb)) (hm : behindInMarks .In b = false := by rfl) : PT X (.Compare a [.In] [b] pos) (tT c W (tVal (d2 (inM0 false) fa fb))) := dt_cmp (op_inS h.units) (h.hK ▸ op2_in false) hm ha hb
theorem de_nin0 (h : Ctx X c W k) (ha : PE X a (tD c W fa)) (hb : PE X b (tD c W fb)) (hm : behindInMarks .NotIn b = false := by rfl) : PE X (.Compare a [.NotIn] [b] pos) (tD c W (d2 (inM0 true) fa fb)) := de_cmp (op_notInS h.units) (h.hK ▸ op2_in true) hm ha hb
theorem dt_nin0 (h : Ctx X c W k) (ha : PE X a (tD c W fa)) (hb : PE X b (tD c W fb)) (hm : behindInMarks .NotIn b = false := by rfl) : PT X (.Compare a [.NotIn] [b] pos) (tT c W (tVal (d2 (inM0 true) fa fb))) := dt_cmp (op_notInS h.units) (h.hK ▸ op2_in true) hm ha hb
def isNon : D → Bool
  | .non => true
  | _ => false
def isM (neg : Bool) : D → D → M D
  | a, .non => M.ret (.bl (xor neg (isNon a)))
  | .bl x, .bl y => M.ret (.bl (xor neg (decide (x = y))))
  | _, _ => M.fail
theorem rep_none {L : List (List Addr)} {G : Hp} {v : V} {d : D} (h : Rep c L G v d) : decide (v = .non) = isNon d := by
  cases h <;> rfl
theorem op2_is : Op2 c (fun x y H Q => (y = .non ∧ Q (.bl (decide (x = .non))) H) ∨ (∃ a b, x = .bl a ∧ y = .bl b ∧ Q (.bl (decide (a = b))) H)) (isM false) := by
  intro e W L T G H σ ρ x y a b Q S rx ry p
  cases b with
  | non =>
    cases ry
    refine .inl ⟨rfl, ?_⟩
    rw [rep_none rx]
    have q := p.val S (v := .bl (xor false (isNon a))) (.bl _)
    rw [Bool.false_xor] at q
    exact q
  | bl y =>
    cases a with
    | bl x =>
      cases rx; cases ry
      refine .inr ⟨x, y, rfl, rfl, ?_⟩
      have q := p.val S (v := .bl (xor false (decide (x = y)))) (.bl _)
      rw [Bool.false_xor] at q
      exact q
    | _ => exact p.bad
  | _ => cases a <;> exact p.bad
theorem op2_isnot : Op2 c (fun x y H Q => (y = .non ∧ Q (.bl (!decide (x = .non))) H) ∨ (∃ a b, x = .bl a ∧ y = .bl b ∧ Q (.bl (!decide (a = b))) H)) (isM true) := by
  intro e W L T G H σ ρ x y a b Q S rx ry p
  cases b with
  | non =>
    cases ry
    refine .inl ⟨rfl, ?_⟩
    rw [rep_none rx]
    have q := p.val S (v := .bl (xor true (isNon a))) (.bl _)
    rw [Bool.true_xor] at q
    exact q
  | bl y =>
    cases a with
    | bl x =>
      cases rx; cases ry
      refine .inr ⟨x, y, rfl, rfl, ?_⟩
      have q := p.val S (v := .bl (xor true (decide (x = y)))) (.bl _)
      rw [Bool.true_xor] at q
      exact q
    | _ => exact p.bad
  | _ => cases a <;> exact p.bad
theorem de_is (ha : PE X a (tD c W fa)) (hb : PE X b (tD c W fb)) : PE X (.Compare a [.Is] [b] pos) (tD c W (d2 (isM false) fa fb)) := de_cmp (OpR.or op_isN op_is_bl) op2_is (nom b) ha hb
theorem dt_is (ha : PE X a (tD c W fa)) (hb : PE X b (tD c W fb)) : PT X (.Compare a [.Is] [b] pos) (tT c W (tVal (d2 (isM false) fa fb))) := dt_cmp (OpR.or op_isN op_is_bl) op2_is (nom b) ha hb
theorem de_isnot (ha : PE X a (tD c W fa)) (hb : PE X b (tD c W fb)) : PE X (.Compare a [.IsNot] [b] pos) (tD c W (d2 (isM true) fa fb)) := de_cmp (OpR.or op_notN op_isnot_bl) op2_isnot (nom b) ha hb
theorem dt_isnot (ha : PE X a (tD c W fa)) (hb : PE X b (tD c W fb)) : PT X (.Compare a [.IsNot] [b] pos) (tT c W (tVal (d2 (isM true) fa fb))) := dt_cmp (OpR.or op_notN op_isnot_bl) op2_isnot (nom b) ha hb
end
end WW
set_option maxHeartbeats 1000000
namespace WW
open PySem PySem.Spec PyProof.Rows L2
section
variable {X : Cx} {c : Cfg} {W : WX} {k : Nat} {a b cc : Expr} {fa fb fc : Ex} {ta tb : Tx} {pos : Pos} {rest : List Expr}
theorem tD_one {f : Ex} {g : D → M D} {σ : L2.St} {H : Hp} {Q : VK} (h : tD c W (fun ρ => f ρ >>= g) σ H Q) :
    tD c W f σ H fun v H1 => ∃ e L T G ρ d, Sta c e L T G H1 σ ρ ∧ Rep c L G v d ∧ PostG c e W σ ρ (Rep c) L G (g d T) Q := tG.one (R1 := Rep c) (k := fun a _ => g a) h
theorem dt_val (ha : PE X a (tD c W fa)) (he : ∀ whole, isTrue a X.env whole = (do let v ← whole; standAt a.pos; holding [v] (truthy v)) := by intro _; rfl) : PT X a (tT c W (tVal fa)) := by
  refine (pt_val ha he).imp fun σ H Q q => (tG.one (R1 := Rep c) (f := fa) (k := fun d _ => blM d) q).mono fun v H1 q1 => ?_
  obtain ⟨e, L, T, G, ρ, d, S, r, p⟩ := q1
  cases d with
  | bl z =>
    cases r
    exact ⟨z, rfl, p z L G H1 (LE.refl _) (Same.refl _) S rfl⟩
  | _ => exact p.bad
theorem dt_tru (h : Ctx X c W k) (ha : PE X a (tD c W fa)) (he : ∀ whole, isTrue a X.env whole = (do let v ← whole; standAt a.pos; holding [v] (truthy v)) := by intro _; rfl) : PT X a (tT c W (tTru fa)) := by
  refine (pt_truth ha he).imp fun σ H Q q => (tG.one (R1 := Rep c) (f := fa) (k := fun d _ => truM d) q).mono fun v H1 q1 => ?_
  obtain ⟨e, L, T, G, ρ, d, S, r, p⟩ := q1
  have fin : ∀ z, truM d = M.ret z → Q z H1 := fun z hz => by
    rw [hz] at p
    exact p z L G H1 (LE.refl _) (Same.refl _) S rfl
  rw [h.hK]
  cases d with
  | non => cases r; exact ⟨false, rfl, fin _ rfl⟩
  | bl z => cases r; exact ⟨z, rfl, fin _ rfl⟩
  | int i => cases r; exact ⟨i != 0, rfl, fin _ rfl⟩
  | lst xs =>
    cases r with
    | @lst ax vs _ h1 h2 h3 =>
      refine ⟨_, .inl ⟨vs, .of (S.subS.lst h1), rfl⟩, fin _ ?_⟩
      have : vs.isEmpty = xs.isEmpty := by
        have := h2.length
        cases vs <;> cases xs <;> simp_all
      rw [this]; rfl
  | tup xs =>
    cases r with
    | @tup ax vs _ h1 h2 h3 =>
      refine ⟨_, .inr (.inl ⟨vs, S.subS.sqT h1, rfl⟩), fin _ ?_⟩
      have : vs.isEmpty = xs.isEmpty := by
        have := h2.length
        cases vs <;> cases xs <;> simp_all
      rw [this]; rfl
  | _ => exact p.bad
theorem tT_not {f : Tx} {σ : L2.St} {H : Hp} {Q : Bool → Hp → Prop} (h : tT c W (tNotX f) σ H Q) : tNot (tT c W f) σ H Q := by
  refine (tG.one (R1 := fun _ _ (b b' : Bool) => b = b') (f := f) (k := fun b _ => M.ret (!b)) h).mono fun v H1 q1 => ?_
  obtain ⟨e, L, T, G, ρ, d, S, r, p⟩ := q1
  subst r
  exact p _ L G H1 (LE.refl _) (Same.refl _) S rfl
theorem dt_not (ha : PT X a (tT c W ta)) : PT X (.UnaryOp .Not a pos) (tT c W (tNotX ta)) := (pt_not ha).imp fun σ H Q q => tT_not q
theorem tT_and {f g : Tx} {σ : L2.St} {H : Hp} {Q : Bool → Hp → Prop} (h : tT c W (tAndX f g) σ H Q) : tAnd (tT c W f) (tT c W g) σ H Q := by
  refine (tG.one (R1 := fun _ _ (b b' : Bool) => b = b') (f := f) (k := fun b ρ => if b = true then g ρ else M.ret false) h).mono fun v H1 q1 => ?_
  obtain ⟨e, L, T, G, ρ, d, S, r, p⟩ := q1
  subst r
  cases v with
  | true => exact ⟨e, L, T, G, ρ, S, p⟩
  | false => exact p _ L G H1 (LE.refl _) (Same.refl _) S rfl
theorem tT_or {f g : Tx} {σ : L2.St} {H : Hp} {Q : Bool → Hp → Prop} (h : tT c W (tOrX f g) σ H Q) : tOr (tT c W f) (tT c W g) σ H Q := by
  refine (tG.one (R1 := fun _ _ (b b' : Bool) => b = b') (f := f) (k := fun b ρ => if b = true then M.ret true else g ρ) h).mono fun v H1 q1 => ?_
  obtain ⟨e, L, T, G, ρ, d, S, r, p⟩ := q1
  subst r
  cases v with
  | true => exact p _ L G H1 (LE.refl _) (Same.refl _) S rfl
  | false => exact ⟨e, L, T, G, ρ, S, p⟩
theorem dw_and1 (ha : PT X a (tT c W ta)) : PW X (.BoolOp .And [a] pos) (tT c W ta) := pw_and1 ha
theorem dw_or1 (ha : PT X a (tT c W ta)) : PW X (.BoolOp .Or [a] pos) (tT c W ta) := pw_or1 ha
theorem dw_and (ha : PT X a (tT c W ta)) (hb : PW X (.BoolOp .And (b :: rest) pos) (tT c W tb)) : PW X (.BoolOp .And (a :: b :: rest) pos) (tT c W (tAndX ta tb)) := (pw_and ha hb).imp fun σ H Q q => tT_and q
theorem dw_or (ha : PT X a (tT c W ta)) (hb : PW X (.BoolOp .Or (b :: rest) pos) (tT c W tb)) : PW X (.BoolOp .Or (a :: b :: rest) pos) (tT c W (tOrX ta tb)) := (pw_or ha hb).imp fun σ H Q q => tT_or q
theorem bl_one {f : Ex} {K : Bool → En → M D} {σ : L2.St} {H : Hp} {Q : VK} (h : tD c W (fun ρ => f ρ >>= blM >>= fun z => K z ρ) σ H Q) :
    tD c W f σ H fun v H1 => ∃ z, v = .bl z ∧ ∃ e L T G ρ, Sta c e L T G H1 σ ρ ∧ PostG c e W σ ρ (Rep c) L G (K z ρ T) Q := by
  have h' : tD c W (fun ρ => f ρ >>= fun d => blM d >>= fun z => K z ρ) σ H Q := by
    have e : (fun ρ => f ρ >>= blM >>= fun z => K z ρ) = (fun ρ => f ρ >>= fun d => blM d >>= fun z => K z ρ) := by
      funext ρ
      rw [bind_assoc']
    rw [← e]; exact h
  refine (tG.one (R1 := Rep c) (f := f) (k := fun d ρ => blM d >>= fun z => K z ρ) h').mono fun v H1 q1 => ?_
  obtain ⟨e, L, T, G, ρ, d, S, r, p⟩ := q1
  cases d with
  | bl z =>
    cases r
    exact ⟨z, rfl, e, L, T, G, ρ, S, p⟩
  | _ => exact p.bad
theorem de_one {op : BoolOp} (ha : PE X a (tD c W fa)) : PE X (.BoolOp op [a] pos) (tD c W fa) := pe_one ha
theorem de_and (ha : PE X a (tD c W fa)) (hb : PE X (.BoolOp .And (b :: rest) pos) (tD c W fb)) : PE X (.BoolOp .And (a :: b :: rest) pos) (tD c W (dAnd fa fb)) := by
  refine (pe_and ha hb).imp fun σ H Q q => (bl_one (f := fa) (K := fun z ρ => if z = true then fb ρ else M.ret (.bl false)) q).mono fun v H1 q1 => ?_
  obtain ⟨z, rfl, e, L, T, G, ρ, S, p⟩ := q1
  refine ⟨z, rfl, ?_⟩
  cases z with
  | true => exact ⟨e, L, T, G, ρ, S, p⟩
  | false => exact p.val S (.bl _)
theorem de_or (ha : PE X a (tD c W fa)) (hb : PE X (.BoolOp .Or (b :: rest) pos) (tD c W fb)) : PE X (.BoolOp .Or (a :: b :: rest) pos) (tD c W (dOr fa fb)) := by
  refine (pe_or ha hb).imp fun σ H Q q => (bl_one (f := fa) (K := fun z ρ => if z = true then M.ret (.bl true) else fb ρ) q).mono fun v H1 q1 => ?_
  obtain ⟨z, rfl, e, L, T, G, ρ, S, p⟩ := q1
  refine ⟨z, rfl, ?_⟩
  cases z with
  | false => exact ⟨e, L, T, G, ρ, S, p⟩
  | true => exact p.val S (.bl _)
theorem de_not (ha : PE X a (tD c W fa)) : PE X (.UnaryOp .Not a pos) (tD c W (dNot fa)) := by
  refine (pe_not ha).imp fun σ H Q q => (bl_one (f := fa) (K := fun z ρ => M.ret (.bl (!z))) q).mono fun v H1 q1 => ?_
  obtain ⟨z, rfl, e, L, T, G, ρ, S, p⟩ := q1
  exact ⟨z, rfl, p.val S (.bl _)⟩
theorem de_if (hc : PT X cc (tT c W ta)) (ha : PE X a (tD c W fa)) (hb : PE X b (tD c W fb)) : PE X (.IfExp cc a b pos) (tD c W (dIf ta fa fb)) := by
  refine (pe_ifExp hc ha hb).imp fun σ H Q q => (tG.one (R1 := fun _ _ (b b' : Bool) => b = b') (f := ta) (k := fun z ρ => if z = true then fa ρ else fb ρ) q).mono fun v H1 q1 => ?_
  obtain ⟨e, L, T, G, ρ, d, S, r, p⟩ := q1
  subst r
  cases v with
  | true => exact ⟨e, L, T, G, ρ, S, p⟩
  | false => exact ⟨e, L, T, G, ρ, S, p⟩
theorem chain_end {o o' : CmpOp} {r r' : R2} {f f' : D → D → M D} (h : Op2 c r f) (h' : Op2 c r' f') {σ : L2.St} {H : Hp} {Q : VK} (q : tD c W (dChain f f' fa fb fc) σ H Q) : tChain r r' (tD c W fa) (tD c W fb) (tD c W fc) σ H Q := by
  refine (tG.two (R1 := Rep c) (R1' := Rep c) (f := fa) (g := fb) (k := fun x y ρ => f x y >>= blM >>= fun z => if z = true then fc ρ >>= fun u => f' y u else M.ret (.bl false)) Rep.up q).mono fun v H1 q1 => q1.mono fun u H2 q2 => ?_
  obtain ⟨e, L, T, G, ρ, a, b, S, r1, r2, p⟩ := q2
  rw [bind_assoc'] at p
  refine h e W L T G H2 σ ρ v u a b _ S r1 r2 ((PostG.then (R1 := Rep c) p).mono fun y H3 q3 => ?_)
  obtain ⟨L1, T1, G1, d, h1, h2, S1, rd, e1, p1⟩ := q3
  cases d with
  | bl z =>
    cases rd
    refine ⟨z, rfl, ?_⟩
    cases z with
    | false => exact p1.val S1 (.bl _)
    | true =>
      have p2 : PostG c e W σ ρ (Rep c) L1 G1 ((fc ρ >>= fun u => f' b u) T1) Q := p1
      refine ⟨e, L1, T1, G1, ρ, S1, (PostG.then (R1 := Rep c) p2).mono fun y4 H4 q4 => ?_⟩
      obtain ⟨L2', T2, G2, d2', h3, h4, S2, rd2, e2, p3⟩ := q4
      exact h' e W L2' T2 G2 H4 σ ρ u y4 b d2' Q S2 (r2.up (h1.trans h3) (h2.trans h4)) rd2 p3
  | _ => exact p1.bad
theorem de_lele (ha : PE X a (tD c W fa)) (hb : PE X b (tD c W fb)) (hc : PE X cc (tD c W fc)) (hm : lastMarks [.LtE, .LtE] [b, cc] = false := by rfl) : PE X (.Compare a [.LtE, .LtE] [b, cc] pos) (tD c W (dChain leM leM fa fb fc)) :=
  (pe_chain op_le op_le ha hb hc hm).imp fun σ H Q q => chain_end (o := .LtE) (o' := .LtE) op2_le op2_le q
theorem dt_lele (ha : PE X a (tD c W fa)) (hb : PE X b (tD c W fb)) (hc : PE X cc (tD c W fc)) (hm : lastMarks [.LtE, .LtE] [b, cc] = false := by rfl) : PT X (.Compare a [.LtE, .LtE] [b, cc] pos) (tT c W (tVal (dChain leM leM fa fb fc))) := by
  refine (pt_chain op_le op_le ha hb hc hm).imp fun σ H Q q => ?_
  refine chain_end (W := W) (fa := fa) (fb := fb) (fc := fc) (f := leM) (f' := leM) (o := .LtE) (o' := .LtE) op2_le op2_le ?_
  obtain ⟨e, L, T, G, ρ, S, p⟩ := q
  exact ⟨e, L, T, G, ρ, S, test_end p⟩
variable {es : List Expr} {fs : List Ex}
theorem da_nil : PA X [] (tL c W (dArgs [])) := pa_nil.imp fun σ H Q ⟨e, L, T, G, ρ, S, p⟩ => p _ L G H (LE.refl _) (Same.refl _) S .nil
theorem da_cons (ha : PE X a (tD c W fa)) (hr : PA X es (tL c W (dArgs fs))) (hs : starEach (a :: es) X.env = (false, eval a X.env) :: starEach es X.env := by rfl) : PA X (a :: es) (tL c W (dArgs (fa :: fs))) := by
  refine (pa_cons ha hr hs).imp fun σ H Q q => (tG.two (R1 := Rep c) (R1' := RepL c) (f := fa) (g := dArgs fs) (k := fun x xs _ => M.ret (x :: xs)) Rep.up q).mono fun v H1 q1 => q1.mono fun u H2 q2 => ?_
  obtain ⟨e, L, T, G, ρ, a, b, S, r1, r2, p⟩ := q2
  exact p _ L G H2 (LE.refl _) (Same.refl _) S (.cons r1 r2)
theorem de_tup {x1 : Nat} (h : PA X es (tL c W (dArgs fs))) : PE X (.Tuple es x1 pos) (tD c W (dTup fs)) := by
  refine (pe_tup h).imp fun σ H Q q => (tG.one (R1 := RepL c) (R2 := Rep c) (f := dArgs fs) (k := fun xs _ => if xs.length ≤ sizeLine then M.ret (D.tup xs) else M.fail) q).mono fun vs H1 q1 => ?_
  obtain ⟨e, L, T, G, ρ, ds, S, r, p⟩ := q1
  by_cases z : ds.length ≤ sizeLine
  · rw [if_pos z] at p
    exact ⟨by rw [r.length]; exact z, p.newT S r z⟩
  · rw [if_neg z] at p
    exact p.bad
/-- a fresh list becomes plain data -/
theorem tO_own {f : Ox} {σ : L2.St} {H : Hp} {Q : VK} (h : tD c W (dOwn f) σ H Q) : tO c W f σ H Q := by
  obtain ⟨e, L, T, G, ρ, S, p⟩ := h
  refine ⟨e, L, T, G, ρ, S, ?_⟩
  cases hr : f ρ T with
  | bad => unfold dOwn at p; rw [bnd_bad hr] at p; exact p
  | exn k T' => unfold dOwn at p; rw [bnd_exn hr] at p; exact p
  | ok ds T' =>
    unfold dOwn at p; rw [bnd_ok hr] at p
    intro q L' G' H' h1 h2 S' fr
    obtain ⟨vs, hv, rv, hz⟩ := fr.at_
    have gs := same_upd (o := .lst vs) fr.g
    exact p _ L' _ H' h1 (h2.trans gs) (S'.freeze hv fr.g fr.l fr.l0 fr.h0 fr.xo fr.sl) (.lst upd_same (rv.up (LE.refl _) gs) hz)
theorem de_own {f : Ox} (h : PE X a (tO c W f)) : PE X a (tD c W (dOwn f)) := h.imp fun σ H Q q => tO_own q
theorem Sta.fresh {e : Gh} {L : List (List Addr)} {G H : Hp} {T : List Cell} {σ : L2.St} {ρ : En} (S : Sta c e L T G H σ ρ) {p : Addr} (hp : H p = none) {vs : List V} {ds : List D} (r : RepL c L G vs ds) (hz : ds.length ≤ sizeLine) :
    FreshL c e L G (upd H p (.lst vs)) σ ρ p ds := ⟨⟨vs, upd_same, r, hz⟩, S.gnone hp, S.notcell hp, S.notcell0 hp, S.h0none hp (S.notcell hp) (S.notcell0 hp), S.notx hp, S.notslot hp⟩
theorem do_lst (h : PA X es (tL c W (dArgs fs))) : PE X (.List es pos) (tO c W (oLst fs)) := by
  refine (pe_lst h).imp fun σ H Q q => ?_
  obtain ⟨e, L, T, G, ρ, S, p⟩ := q
  refine ⟨e, L, T, G, ρ, S, ?_⟩
  cases hr : dArgs fs ρ T with
  | bad => unfold oLst at p; rw [bnd_bad hr] at p; exact p
  | exn k T' => unfold oLst at p; rw [bnd_exn hr] at p; exact p
  | ok ds T' =>
    unfold oLst at p; rw [bnd_ok hr] at p
    intro vs L' G' H' h1 h2 S' rv
    by_cases z : ds.length ≤ sizeLine
    · rw [if_pos z] at p
      exact ⟨by rw [rv.length]; exact z, fun q hq => p q L' G' _ h1 h2 (S'.grow hq) (S'.fresh hq rv z)⟩
    · rw [if_neg z] at p
      exact False.elim p
theorem de_ix0 (h : Ctx X c W k) (ha : PE X a (tD c W fa)) (hb : PE X b (tD c W fb)) (hs : PlainIx b := by exact fun _ _ => rfl) : PE X (.Subscript a b pos) (tD c W (d2 ixM0 fa fb)) := by
  refine (pe_ix (IxR.or ix_list ix_tup) ha hb hs).imp fun σ H Q q => (tG.two (R1 := Rep c) (R1' := Rep c) Rep.up q).mono fun v H1 q1 => q1.mono fun u H2 q2 => ?_
  obtain ⟨e, L, T, G, ρ, a, b, S, r1, r2, p⟩ := q2
  rw [h.hK]
  exact op2_ix e W L T G H2 σ ρ v u a b Q S r1 r2 p
end
end WW
set_option maxHeartbeats 1000000
namespace WW
open PySem PySem.Spec PyProof.Rows L2
def CallD (c : Cfg) (r : List V → Hp → VK → Prop) (F : List D → M D) : Prop := ∀ (e : Gh) (W : WX) (L : List (List Addr)) (T : List Cell) (G H : Hp) (σ : L2.St) (ρ : En) (vs : List V) (ds : List D) (Q : VK), Sta c e L T G H σ ρ → RepL c L G vs ds →
  PostG c e W σ ρ (Rep c) L G (F ds T) Q → r vs H Q
def PostO (c : Cfg) (e : Gh) (W : WX) (σ : L2.St) (ρ : En) (L : List (List Addr)) (G : Hp) (r : Rs (List D)) (Q : VK) : Prop := match r with
  | .ok ds T' => ∀ p L' G' H', LE L L' → Same G G' → Sta c e L' T' G' H' σ ρ → FreshL c e L' G' H' σ ρ p ds → Q (.ref p) H'
  | .exn k T' => ∀ L' G' H', LE L L' → Same G G' → Sta c e L' T' G' H' σ ρ → W (.ref (c.CA k)) none σ H'
  | .bad => False
def CallO (c : Cfg) (r : List V → Hp → VK → Prop) (F : List D → M (List D)) : Prop := ∀ (e : Gh) (W : WX) (L : List (List Addr)) (T : List Cell) (G H : Hp) (σ : L2.St) (ρ : En) (vs : List V) (ds : List D) (Q : VK), Sta c e L T G H σ ρ → RepL c L G vs ds →
  PostO c e W σ ρ L G (F ds T) Q → r vs H Q
def F1 {α : Type} (op : D → M α) : List D → M α
  | [x] => op x
  | _ => M.fail
def oCall (F : List D → M (List D)) (as : List Ex) : Ox := fun ρ => dArgs as ρ >>= F
section
variable {c : Cfg}
theorem PostO.newO {e : Gh} {W : WX} {σ : L2.St} {ρ : En} {L : List (List Addr)} {G H : Hp} {T : List Cell} {ds : List D} {vs : List V} {Q : VK} (p : PostO c e W σ ρ L G (M.ret ds T) Q) (S : Sta c e L T G H σ ρ) (r : RepL c L G vs ds) (hz : ds.length ≤ sizeLine) :
    ∀ a, H a = none → Q (.ref a) (upd H a (.lst vs)) := fun a ha => p a L G _ (LE.refl _) (Same.refl _) (S.grow ha) (S.fresh ha r hz)
theorem cd_len : CallD c (fun xs H Q => ∃ p ys, xs = [.ref p] ∧ (SqL c.K H p ys ∨ SqT c.K H p ys) ∧ Q (.int ys.length) H) (F1 lenM0) := by
  intro e W L T G H σ ρ vs ds Q S r p
  cases r with
  | nil => exact p.bad
  | cons r1 r2 =>
    cases r2 with
    | cons _ _ => exact p.bad
    | nil =>
      cases r1 with
      | @lst a vs ds h1 h2 h3 =>
        refine ⟨a, vs, rfl, .inl (.of (S.subS.lst h1)), ?_⟩
        have q := p.val S (.int _)
        rw [h2.length]; exact q
      | @tup a vs ds h1 h2 h3 =>
        refine ⟨a, vs, rfl, .inr (S.subS.sqT h1), ?_⟩
        have q := p.val S (.int _)
        rw [h2.length]; exact q
      | _ => exact p.bad
theorem cd_all : CallD c (rAll c.K) (F1 allM) := by
  intro e W L T G H σ ρ vs ds Q S r p
  cases r with
  | nil => exact p.bad
  | cons r1 r2 =>
    cases r2 with
    | cons _ _ => exact p.bad
    | nil =>
      cases r1 with
      | @lst a vs ds h1 h2 h3 =>
        simp only [F1, allM] at p
        cases q : blsOf ds with
        | none => rw [q] at p; exact p.bad
        | some bs =>
          rw [q] at p
          have e1 := blsOf_some q
          subst e1
          rw [h2.bls] at h1
          exact ⟨a, bs, rfl, .of (S.subS.lst h1), p.val S (.bl _)⟩
      | _ => exact p.bad
theorem cd_any : CallD c (rAny c.K) (F1 anyM) := by
  intro e W L T G H σ ρ vs ds Q S r p
  cases r with
  | nil => exact p.bad
  | cons r1 r2 =>
    cases r2 with
    | cons _ _ => exact p.bad
    | nil =>
      cases r1 with
      | @lst a vs ds h1 h2 h3 =>
        simp only [F1, anyM] at p
        cases q : blsOf ds with
        | none => rw [q] at p; exact p.bad
        | some bs =>
          rw [q] at p
          have e1 := blsOf_some q
          subst e1
          rw [h2.bls] at h1
          exact ⟨a, bs, rfl, .of (S.subS.lst h1), p.val S (.bl _)⟩
      | _ => exact p.bad
theorem cd_tuple : CallD c (fun xs H Q => ∃ p ys, xs = [.ref p] ∧ ((SqL c.K H p ys ∧ ∀ l, H l = none → Q (.ref l) (upd H l (.tup ys))) ∨ (SqT c.K H p ys ∧ Q (.ref p) H))) (F1 tupleM) := by
  intro e W L T G H σ ρ vs ds Q S r p
  cases r with
  | nil => exact p.bad
  | cons r1 r2 =>
    cases r2 with
    | cons _ _ => exact p.bad
    | nil =>
      have r1' := r1
      cases r1 with
      | @lst a vs ds h1 h2 h3 => exact ⟨a, vs, rfl, .inl ⟨.of (S.subS.lst h1), p.newT S h2 h3⟩⟩
      | @tup a vs ds h1 h2 h3 => exact ⟨a, vs, rfl, .inr ⟨S.subS.sqT h1, p.val S r1'⟩⟩
      | _ => exact p.bad
def listM : D → M (List D)
  | .lst xs => M.ret xs
  | .tup xs => M.ret xs
  | _ => M.fail
theorem co_list : CallO c (fun xs H Q => ∃ p ys, xs = [.ref p] ∧ (SqL c.K H p ys ∨ SqT c.K H p ys) ∧ ∀ l, H l = none → Q (.ref l) (upd H l (.lst ys))) (F1 listM) := by
  intro e W L T G H σ ρ vs ds Q S r p
  cases r with
  | nil => exact False.elim p
  | cons r1 r2 =>
    cases r2 with
    | cons _ _ => exact False.elim p
    | nil =>
      cases r1 with
      | @lst a vs ds h1 h2 h3 => exact ⟨a, vs, rfl, .inl (.of (S.subS.lst h1)), PostO.newO p S h2 h3⟩
      | @tup a vs ds h1 h2 h3 => exact ⟨a, vs, rfl, .inr (S.subS.sqT h1), PostO.newO p S h2 h3⟩
      | _ => exact False.elim p
theorem isort_perm (ns : List Int) : (isort ns).Perm ns := isrt_perm _ ns
theorem isort_sorted (ns : List Int) : (isort ns).Pairwise (· ≤ ·) := by
  have h := isrt_sorted (le := fun a b : Int => decide (a ≤ b)) (fun a b d h1 h2 => by simp only [decide_eq_true_eq] at *; omega) (fun a b => by simp only [Bool.or_eq_true, decide_eq_true_eq]; omega) ns
  exact h.imp fun {a b} h => by simpa using h
theorem sorted_uniq : ∀ {a b : List Int}, a.Perm b → a.Pairwise (· ≤ ·) → b.Pairwise (· ≤ ·) → a = b := fun {a b} h h1 h2 =>
  h.eq_of_pairwise (le := (· ≤ ·)) (fun x y _ _ h3 h4 => Int.le_antisymm h3 h4) h1 h2
end
end WW
set_option maxHeartbeats 1000000
namespace WW
open PySem PySem.Spec PyProof.Rows L2
theorem lex_irr : ∀ a : List Int, HT.lexLt a a = false
  | [] => rfl
  | x :: xs => by rw [HT.lexLt_cons, if_pos rfl, lex_irr xs]
theorem lex_asym : ∀ {a b : List Int}, HT.lexLt a b = true → HT.lexLt b a = false
  | [], [], h => by cases h
  | [], _ :: _, _ => rfl
  | _ :: _, [], h => by cases h
  | x :: xs, y :: ys, h => by
    rw [HT.lexLt_cons] at h ⊢
    by_cases e : x = y
    · rw [if_pos e] at h
      rw [if_pos e.symm]
      exact lex_asym h
    · rw [if_neg e] at h
      rw [if_neg (fun z => e z.symm)]
      have := of_decide_eq_true h
      exact decide_eq_false (by omega)
theorem lex_tot : ∀ {a b : List Int}, HT.lexLt a b = false → HT.lexLt b a = false → a = b
  | [], [], _, _ => rfl
  | [], _ :: _, h, _ => by cases h
  | _ :: _, [], _, h => by cases h
  | x :: xs, y :: ys, h1, h2 => by
    rw [HT.lexLt_cons] at h1 h2
    by_cases e : x = y
    · rw [if_pos e] at h1
      rw [if_pos e.symm] at h2
      rw [e, lex_tot h1 h2]
    · rw [if_neg e] at h1
      rw [if_neg (fun z => e z.symm)] at h2
      have a := of_decide_eq_false h1
      have b := of_decide_eq_false h2
      omega
theorem lex_trans : ∀ {a b d : List Int}, HT.lexLt a b = true → HT.lexLt b d = true → HT.lexLt a d = true
  | [], [], _, h, _ => by cases h
  | [], _ :: _, [], _, h => by cases h
  | [], _ :: _, _ :: _, _, _ => rfl
  | _ :: _, [], _, h, _ => by cases h
  | _ :: _, _ :: _, [], _, h => by cases h
  | x :: xs, y :: ys, z :: zs, h1, h2 => by
    rw [HT.lexLt_cons] at h1 h2 ⊢
    by_cases e : x = y
    · subst e
      rw [if_pos rfl] at h1
      by_cases e2 : x = z
      · rw [if_pos e2] at h2 ⊢
        exact lex_trans h1 h2
      · rw [if_neg e2] at h2 ⊢
        exact h2
    · rw [if_neg e] at h1
      have a := of_decide_eq_true h1
      by_cases e2 : y = z
      · subst e2
        rw [if_neg e]
        exact h1
      · rw [if_neg e2] at h2
        have b := of_decide_eq_true h2
        rw [if_neg (by omega)]
        exact decide_eq_true (by omega)
/-- not after -/
def lexLe (a b : List Int) : Bool := !HT.lexLt b a
theorem lexLe_trans (a b d : List Int) (h1 : lexLe a b = true) (h2 : lexLe b d = true) : lexLe a d = true := by
  unfold lexLe at *
  simp only [Bool.not_eq_true'] at *
  cases q : HT.lexLt d a with
  | false => rfl
  | true =>
    cases q2 : HT.lexLt b d with
    | true => rw [lex_trans q2 q] at h1; cases h1
    | false =>
      have := lex_tot q2 h2
      subst this
      rw [q] at h1; cases h1
theorem lexLe_tot (a b : List Int) : (lexLe a b || lexLe b a) = true := by
  unfold lexLe
  cases q : HT.lexLt b a with
  | false => rfl
  | true => rw [lex_asym q]; rfl
theorem lexLe_anti {a b : List Int} (h1 : lexLe a b = true) (h2 : lexLe b a = true) : a = b := by
  unfold lexLe at *
  simp only [Bool.not_eq_true'] at *
  exact lex_tot h2 h1
def tsort (xs : List (List Int)) : List (List Int) := isrt lexLe xs
theorem tsort_perm (xs : List (List Int)) : (tsort xs).Perm xs := isrt_perm _ xs
theorem tsort_sorted (xs : List (List Int)) : (tsort xs).Pairwise (fun a b => lexLe a b = true) := isrt_sorted lexLe_trans lexLe_tot xs
theorem tsort_uniq {a b : List (List Int)} (h : a.Perm b) (h1 : a.Pairwise (fun a b => lexLe a b = true)) (h2 : b.Pairwise (fun a b => lexLe a b = true)) : a = b :=
  h.eq_of_pairwise (le := fun a b => lexLe a b = true) (fun x y _ _ h3 h4 => lexLe_anti h3 h4) h1 h2
/-- v is a tuple of these ints -/
def IsTupI (h : Heap) (v : Value) (ns : List Int) : Prop := ∃ a o us n, v = .ref a ∧ h.get? a = some o ∧ o.cls = .type "tuple" ∧ o.data = .seq us n ∧ IntsAre us.toList ns
theorem IsTupI.keeps {h h' : Heap} {v : Value} {ns : List Int} (p : IsTupI h v ns) (k : ∀ b o, h.get? b = some o → o.cls = .type "tuple" → h'.get? b = some o) : IsTupI h' v ns := by
  obtain ⟨a, o, us, n, e, ho, hc, hd, hi⟩ := p
  exact ⟨a, o, us, n, e, k _ _ ho hc, hc, hd, hi⟩
theorem swo_lexI (k : Value → List Int) : SrtO.Swo fun v u => HT.lexLt (k v) (k u) := by
  refine ⟨fun x y h => lex_asym h, fun x y z h1 h2 => ?_⟩
  cases q : HT.lexLt (k z) (k x) with
  | false => rfl
  | true =>
    cases q2 : HT.lexLt (k z) (k y) with
    | true => rw [q2] at h2; cases h2
    | false =>
      cases q3 : HT.lexLt (k y) (k z) with
      | false =>
        have := lex_tot q2 q3
        rw [this, h1] at q; cases q
      | true => rw [lex_trans q3 q] at h1; cases h1
section
variable {prog : Program} {w : World} {A : Around} {E : Value → Shared → Prop} {s : Shared}
theorem kat_ints {b : Bool} : ∀ {us vs : List Value} {ns ms : List Int} {i : Nat} {R : Bool → Prop}, IntsAre us ns → IntsAre vs ms → R (HT.lexLt ns ms) →
    PySem.W.KatLex prog w A b (decide (us.length < vs.length)) (fun r s' => s' = s ∧ R r) (us.zip vs) i s
  | [], [], _, _, _, R, hu, hv, h => by
    cases hu; cases hv
    exact PySem.W.kat_nil ⟨rfl, h⟩
  | [], _ :: _, _, _, _, R, hu, hv, h => by
    cases hu; cases hv
    exact PySem.W.kat_nil ⟨rfl, h⟩
  | _ :: _, [], _, _, _, R, hu, hv, h => by
    cases hu; cases hv
    exact PySem.W.kat_nil ⟨rfl, h⟩
  | _ :: us, _ :: vs, _, _, i, R, .cons x t hu, .cons y t' hv, h => by
    rw [HT.lexLt_cons] at h
    have el : decide ((Value.int x t :: us).length < (Value.int y t' :: vs).length) = decide (us.length < vs.length) := by
      simp only [List.length_cons, Nat.add_lt_add_iff_right]
    rw [el]
    show PySem.W.KatLex prog w A b _ _ ((Value.int x t, Value.int y t') :: us.zip vs) i s
    refine PySem.W.kat_cons (SeqAt.EqAt.int_int x t y t' prog w _ _ ?_)
    refine PySem.W.kat_go (fun e1 => ?_) (fun e1 => ?_)
    · have ex : x = y := by simpa using e1
      rw [if_pos ex] at h
      exact PySem.W.kat_yes (kat_ints hu hv h)
    · have ex : ¬ x = y := by simpa using e1
      rw [if_neg ex] at h
      refine PySem.W.kat_no ?_
      cases hb : (b && i == 0) with
      | true => exact PyProof.Rows.oneLt_int ⟨rfl, h⟩
      | false => exact PySem.W.kat_one _ _ (PyProof.Rows.lt_int (show s = s ∧ R (decide (x < y)) from ⟨rfl, h⟩))
theorem tups_cmp {vs : List Value} {k : Value → List Int} (hp : ∀ v ∈ vs, IsTupI s.heap v (k v)) : SrtO.Cmp prog w A s (tuples' true) (fun p => p.1 ∈ vs) (SrtO.lt2 fun v u => HT.lexLt (k v) (k u)) := by
  intro p q hm hm'
  obtain ⟨a, o, us, n, e, ho, hc, hd, hi⟩ := hp _ hm
  obtain ⟨a', o', us', n', e', ho', hc', hd', hi'⟩ := hp _ hm'
  show wpAny (model prog w) A (keyLt' (tuples' true) p.1 q.1) (fun r s' => s' = s ∧ r = HT.lexLt (k p.1) (k q.1)) (fun _ _ => False) s
  generalize k p.1 = x at hi ⊢
  generalize k q.1 = y at hi' ⊢
  rw [e, e']
  refine PySem.W.kat_lt ho hd ho' hd' ?_
  have := kat_ints (prog := prog) (w := w) (A := A) (s := s) (b := true) (i := 0) (R := fun r => r = HT.lexLt x y) hi hi' rfl
  simpa using this
theorem firstsI {h : Heap} : ∀ {vs : List Value}, (∀ v ∈ vs, ∃ n ns, IsTupI h v (n :: ns)) → ∃ fs : List Value, PySem.W.KatTups h vs fs ∧ fs.length = vs.length ∧ ∀ f ∈ fs, ∃ x t, f = Value.int x t
  | [], _ => ⟨[], PySem.W.KatTups.nil, rfl, fun _ hm => by simp at hm⟩
  | v :: vs, hp => by
    obtain ⟨fs, h1, h2, h3⟩ := firstsI fun u hu => hp u (List.mem_cons_of_mem _ hu)
    obtain ⟨x, ns, a, o, us, n, rfl, ho, hc, hd, hi⟩ := hp v List.mem_cons_self
    obtain ⟨u, r, hu⟩ : ∃ u r, us.toList = u :: r := by
      cases q : us.toList with
      | nil => rw [q] at hi; cases hi
      | cons u r => exact ⟨u, r, rfl⟩
    have hz : us[0]? = some u := by rw [← Array.getElem?_toList, hu]; rfl
    rw [hu] at hi
    obtain ⟨t, rfl⟩ : ∃ t, u = Value.int x t := by
      cases hi with
      | cons _ t _ => exact ⟨t, rfl⟩
    refine ⟨.int x t :: fs, PySem.W.KatTups.cons ho hc hd hz h1, by rw [List.length_cons, List.length_cons, h2], fun f hm => ?_⟩
    rcases List.mem_cons.mp hm with e | hm
    · exact ⟨x, t, e⟩
    · exact h3 f hm
theorem tups_sortable {a : Addr} {vs : List Value} {k : Value → List Int} (h0 : 0 < vs.length) (hp : ∀ v ∈ vs, IsTupI s.heap v (k v)) (hk : ∀ v ∈ vs, k v ≠ []) (ha : ∀ o, s.heap.get? a = some o → o.cls ≠ .type "tuple") :
    SrtO.SortableO prog w A s a vs fun v u => HT.lexLt (k v) (k u) := by
  intro h' keep
  have hp' : ∀ v ∈ vs, IsTupI h' v (k v) := fun v hm => (hp v hm).keeps fun b o e c => keep b o (fun z => by subst z; exact ha o e c) e
  obtain ⟨fs, h1, h2, h3⟩ := firstsI (h := h') (vs := vs) fun v hm => by
    have q := hp' v hm
    have q2 := hk v hm
    cases e : k v with
    | nil => exact absurd e q2
    | cons n ns => rw [e] at q; exact ⟨n, ns, q⟩
  refine ⟨tuples' true, fun Q E hq => ?_, tups_cmp hp'⟩
  refine PySem.W.kat_kind (T := .type "int") h1 (by omega) (fun f hm => ?_) (by rfl) ?_
  · obtain ⟨x, t, rfl⟩ := h3 f hm
    exact PySem.W.Looks.now
  · have e : (Value.type "int" != Value.type "tuple") = true := by first | decide +kernel | rfl | decide
    rw [e]
    exact hq
end
/-- sorted(xs), xs a list of tuples of ints, none empty (or there is just one) -/
def rSortedT (K : PySem.W.Frag) : List V → Hp → VK → Prop := fun vs H Q => ∃ (a : Addr) (ps : List (V × List Int)), vs = [V.ref a] ∧ SqL K H a (ps.map (·.1)) ∧ (∀ q ∈ ps, ∃ t, q.1 = V.ref t ∧ SqT K H t (q.2.map V.int)) ∧ (2 ≤ ps.length → ∀ q ∈ ps, q.2 ≠ []) ∧
  ∀ (qs : List (V × List Int)) p, qs.Perm ps → (qs.map (·.2)).Pairwise (fun x y => lexLe x y = true) → H p = none → Q (.ref p) (upd H p (.lst (qs.map (·.1))))
theorem int_inj : ∀ {a b : List Int}, a.map V.int = b.map V.int → a = b
  | [], [], _ => rfl
  | [], _ :: _, h => by cases h
  | _ :: _, [], h => by cases h
  | x :: xs, y :: ys, h => by
    rw [List.map_cons, List.map_cons] at h
    injection h with h1 h2
    injection h1 with h3
    rw [h3, int_inj h2]
theorem lookup_mem {β : Type} {ps : List (V × β)} {q : V × β} (h : q ∈ ps) : ∃ b, ps.lookup q.1 = some b ∧ (q.1, b) ∈ ps := by
  induction ps with
  | nil => cases h
  | cons p ps ih =>
    obtain ⟨p1, p2⟩ := p
    by_cases e : q.1 = p1
    · refine ⟨p2, ?_, by rw [e]; exact List.mem_cons_self⟩
      rw [List.lookup_cons, e]
      simp
    · rcases List.mem_cons.mp h with z | h
      · rw [z] at e; exact absurd rfl e
      · obtain ⟨b, h1, h2⟩ := ih h
        refine ⟨b, ?_, List.mem_cons_of_mem _ h2⟩
        have : (q.1 == p1) = false := by simpa using e
        rw [List.lookup_cons, this]
        exact h1
/-- back -/
def bk : Value → V
  | .ref a => .ref a
  | _ => .non
theorem vals_bk : ∀ {us : List Value}, (∀ u ∈ us, ∃ a, u = Value.ref a) → Vals (us.map bk) us
  | [], _ => .nil
  | u :: us, h => by
    obtain ⟨a, rfl⟩ := h u List.mem_cons_self
    exact .cons rfl (vals_bk fun y hy => h y (List.mem_cons_of_mem _ hy))
theorem bk_of : ∀ {xs : List V} {us : List Value}, Vals xs us → (∀ x ∈ xs, ∃ t, x = V.ref t) → us.map bk = xs ∧ ∀ u ∈ us, ∃ a, u = Value.ref a ∧ V.ref a ∈ xs
  | _, _, .nil, _ => ⟨rfl, fun _ h => by simp at h⟩
  | _, _, .cons (a := x) (b := u) r t, h => by
    obtain ⟨a, rfl⟩ := h x List.mem_cons_self
    have : u = Value.ref a := r
    subst this
    obtain ⟨e, q⟩ := bk_of t fun y hy => h y (List.mem_cons_of_mem _ hy)
    refine ⟨by rw [List.map_cons, e]; rfl, fun v hv => ?_⟩
    rcases List.mem_cons.mp hv with z | hv
    · exact ⟨a, z, List.mem_cons_self⟩
    · obtain ⟨b, z, m⟩ := q v hv
      exact ⟨b, z, List.mem_cons_of_mem _ m⟩
theorem cr_sortedT {X : Cx} : CallR X (.builtin "sorted") (rSortedT X.K) := by
  intro pins s σ H vs us Q I r h
  obtain ⟨a, ps, rfl, hs, hx, hne, q⟩ := h
  have hk : ∀ q ∈ ps, (ps.lookup q.1).getD [] = q.2 := fun q hq => by
    obtain ⟨b, h1, h2⟩ := lookup_mem hq
    rw [h1]
    obtain ⟨t, e1, s1⟩ := hx q hq
    obtain ⟨t', e2, s2⟩ := hx _ h2
    rw [e1] at e2
    cases e2
    exact int_inj (I.tuple_inj s2 s1)
  generalize hkd : (fun x : V => (ps.lookup x).getD []) = k at hk
  have hk' : ∀ q ∈ ps, k q.1 = q.2 := fun q hq => by rw [← hkd]; exact hk q hq
  obtain ⟨its, rv, hl, hz⟩ := I.list hs
  rw [Vals.ref1 r]
  obtain ⟨e1, e2⟩ := bk_of rv fun x m => by
    obtain ⟨q, hq, rfl⟩ := List.mem_map.mp m
    obtain ⟨t, e, _⟩ := hx q hq
    exact ⟨t, e⟩
  have hp : ∀ v ∈ its, IsTupI s.heap v (k (bk v)) := fun v hv => by
    obtain ⟨t, rfl, hm⟩ := e2 v hv
    obtain ⟨q, hq, eq⟩ := List.mem_map.mp hm
    obtain ⟨t', e, ht⟩ := hx q hq
    rw [eq] at e
    cases e
    obtain ⟨its2, r2, ⟨o, ho, hc, n, hd⟩, _⟩ := I.tuple ht
    have e3 : k (V.ref t) = q.2 := by rw [← eq]; exact hk' q hq
    exact ⟨t, o, its2.toArray, n, rfl, ho, hc, hd, show IntsAre its2 (k (V.ref t)) by rw [e3]; exact r2.ints⟩
  have hlen := rv.length
  rw [List.length_map] at hlen hz
  refine SrtO.sorted_ord (swo_lexI fun u => k (bk u)) hl.isList (by rw [← hlen]; exact hz) (fun h2 h₁ a' ha kk => ?_) fun out h1 h2 => ?_
  · refine tups_sortable (s := { s with heap := h₁ }) (by omega) (fun v hm => (hp v hm).keeps fun b o e _ => (kk b o e).2) (fun v hv => ?_) fun o e => ?_
    · obtain ⟨t, rfl, hm⟩ := e2 v hv
      obtain ⟨q, hq, eq⟩ := List.mem_map.mp hm
      have e3 : k (V.ref t) = q.2 := by rw [← eq]; exact hk' q hq
      show k (V.ref t) ≠ []
      rw [e3]
      exact hne (by omega) q hq
    · have e' : some o = some (seqObj "list" its.toArray 0) := e.symm.trans ha
      cases e'
      intro c
      exact absurd (Value.type.inj c) (by decide)
  · obtain ⟨ep, he'⟩ := PyProof.Rows.sortedAll_at s.heap its out.toArray
    have h3 : ∀ u ∈ out, ∃ a, u = Value.ref a := fun u hu => by
      obtain ⟨t, e, _⟩ := e2 u (h2.perm.mem_iff.mp hu)
      exact ⟨t, e⟩
    have hperm : (out.map bk).Perm (ps.map (·.1)) := by rw [← e1]; exact h2.perm.map bk
    have hl2 : (out.map bk).length ≤ sizeLine := by rw [hperm.length_eq, List.length_map]; exact hz
    have hps : (ps.map (·.1)).map (fun x => (x, k x)) = ps := by
      rw [List.map_map]
      conv => rhs; rw [← List.map_id ps]
      exact List.map_congr_left fun q hq => by
        show (q.1, k q.1) = q
        rw [hk' q hq]
    have hqs : ((out.map bk).map fun x => (x, k x)).Perm ps := by
      have := hperm.map fun x => (x, k x)
      rw [hps] at this
      exact this
    have e4 : ((out.map bk).map fun x => (x, k x)).map (·.1) = out.map bk := by
      rw [List.map_map]
      exact List.map_id _
    have e5 : ((out.map bk).map fun x => (x, k x)).map (·.2) = out.map fun u => k (bk u) := by
      rw [List.map_map, List.map_map]; rfl
    have q' := q _ (s.heap.objs.size + 1) hqs (by
      rw [e5]
      refine List.pairwise_map.mpr (h1.imp fun {x y} h => ?_)
      have h' : HT.lexLt (k (bk y)) (k (bk x)) = false := h
      unfold lexLe
      rw [h']; rfl) (I.hok.fresh (Nat.le_succ _))
    rw [e4] at q'
    exact ⟨.ref _, upd H (s.heap.objs.size + 1) (.lst (out.map bk)), I.laid (t' := s.toks) (fun _ _ => PyProof.Rows.sortedAll_old) (Nat.le_succ _) ⟨hl2, out, ep, vals_bk h3, he'⟩, rfl, q'⟩
end WW
set_option maxHeartbeats 1000000
namespace WW
open PySem PySem.Spec PyProof.Rows L2
def tupI (ns : List Int) : D := .tup (ns.map .int)
def tupsOf : List D → Option (List (List Int))
  | [] => some []
  | .tup xs :: r => match intsOf xs, tupsOf r with
    | some ns, some t => some (ns :: t)
    | _, _ => none
  | _ => none
theorem tupsOf_some : ∀ {ds : List D} {t : List (List Int)}, tupsOf ds = some t → ds = t.map tupI
  | [], t, h => by simp [tupsOf] at h; subst h; rfl
  | d :: ds, t, h => by
    cases d with
    | tup xs =>
      simp only [tupsOf] at h
      cases q1 : intsOf xs with
      | none => rw [q1] at h; simp at h
      | some ns =>
        cases q2 : tupsOf ds with
        | none => rw [q1, q2] at h; simp at h
        | some r =>
          rw [q1, q2] at h
          simp at h
          subst h
          rw [List.map_cons, tupsOf_some q2, intsOf_some q1]; rfl
    | _ => simp [tupsOf] at h
@[simp] theorem tupsOf_map : ∀ t : List (List Int), tupsOf (t.map tupI) = some t
  | [] => rfl
  | n :: t => by
    rw [List.map_cons]
    show (match intsOf (n.map D.int), tupsOf (t.map tupI) with | some ns, some t => some (ns :: t) | _, _ => none) = _
    rw [intsOf_map, tupsOf_map t]
def sortM : D → M (List D)
  | .lst xs => (match intsOf xs with
    | some ns => M.ret ((isort ns).map .int)
    | none => (match tupsOf xs with
      | some t => if 2 ≤ t.length → ∀ ns ∈ t, ns ≠ [] then M.ret ((tsort t).map tupI) else M.fail
      | none => M.fail))
  | _ => M.fail
section
variable {c : Cfg} {L : List (List Addr)} {G : Hp}
theorem repL_tups : ∀ {vs : List V} {t : List (List Int)}, RepL c L G vs (t.map tupI) → ∃ ps : List (V × List Int), vs = ps.map (·.1) ∧ t = ps.map (·.2) ∧ ∀ q ∈ ps, Rep c L G q.1 (tupI q.2)
  | _, [], h => by cases h; exact ⟨[], rfl, rfl, fun _ h => by cases h⟩
  | _, n :: t, h => by
    cases h with
    | cons h1 h2 =>
      obtain ⟨ps, e1, e2, q⟩ := repL_tups h2
      refine ⟨(_, n) :: ps, by rw [e1]; rfl, by rw [e2]; rfl, fun q hq => ?_⟩
      rcases List.mem_cons.mp hq with e | hq
      · subst e; exact h1
      · exact ‹∀ q ∈ ps, Rep c L G q.1 (tupI q.2)› q hq
theorem repL_of : ∀ (ps : List (V × List Int)), (∀ q ∈ ps, Rep c L G q.1 (tupI q.2)) → RepL c L G (ps.map (·.1)) ((ps.map (·.2)).map tupI)
  | [], _ => .nil
  | p :: ps, h => .cons (h p List.mem_cons_self) (repL_of ps fun q hq => h q (List.mem_cons_of_mem _ hq))
theorem co_sorted : CallO c (fun vs H Q => rSortedI c.K vs H Q ∨ rSortedT c.K vs H Q) (F1 sortM) := by
  intro e W L T G H σ ρ vs ds Q S r p
  cases r with
  | nil => exact False.elim p
  | cons r1 r2 =>
    cases r2 with
    | cons _ _ => exact False.elim p
    | nil =>
      cases r1 with
      | @lst a vs ds h1 h2 h3 =>
        simp only [F1, sortM] at p
        cases q : intsOf ds with
        | some ns =>
          rw [q] at p
          have e1 := intsOf_some q
          subst e1
          rw [h2.ints] at h1
          refine .inl ⟨a, ns, rfl, .of (S.subS.lst h1), fun ns' a' hp hs ha => ?_⟩
          have e2 : ns' = isort ns := sorted_uniq (hp.trans (isort_perm ns).symm) hs (isort_sorted ns)
          subst e2
          refine PostO.newO p S (repL_ints _) ?_ a' ha
          rw [List.length_map, (isort_perm ns).length_eq]
          rw [List.length_map] at h3
          exact h3
        | none =>
          rw [q] at p
          cases q2 : tupsOf ds with
          | none => rw [q2] at p; exact False.elim p
          | some t =>
            rw [q2] at p
            dsimp only at p
            have e1 := tupsOf_some q2
            subst e1
            by_cases z : 2 ≤ t.length → ∀ ns ∈ t, ns ≠ []
            · rw [if_pos z] at p
              obtain ⟨ps, e2, e3, hq⟩ := repL_tups h2
              subst e2 e3
              refine .inr ⟨a, ps, rfl, .of (S.subS.lst h1), fun x hx => ?_, fun h2 x hx => z (by rw [List.length_map]; exact h2) _ (List.mem_map_of_mem hx), fun qs a' hp hs ha => ?_⟩
              · have rx := hq x hx
                generalize x.1 = v at rx ⊢
                cases rx with
                | tup k1 k2 k3 =>
                  rw [k2.ints] at k1
                  exact ⟨_, rfl, S.subS.sqT k1⟩
              · have e4 : qs.map (·.2) = tsort (ps.map (·.2)) := tsort_uniq ((hp.map (·.2)).trans (tsort_perm _).symm) hs (tsort_sorted _)
                rw [← e4] at p
                refine PostO.newO p S (repL_of qs fun x hx => hq x (hp.mem_iff.mp hx)) ?_ a' ha
                rw [List.length_map, List.length_map, hp.length_eq]
                rw [List.length_map, List.length_map] at h3
                exact h3
            · rw [if_neg z] at p; exact False.elim p
      | _ => exact False.elim p
end
/-- no star ahead of it -/
def NS (a : Expr) : Prop := ∀ (es : List Expr) (env : Env), starEach (a :: es) env = (false, eval a env) :: starEach es env
section
variable {X : Cx} {c : Cfg} {W : WX} {k : Nat} {a b : Expr} {es : List Expr} {fa fb : Ex} {fs : List Ex} {pos p : Pos} {x : Str}
theorem call_end {r : List V → Hp → VK → Prop} {F : List D → M D} (h : CallD c r F) {σ : L2.St} {H : Hp} {Q : VK} (q : tD c W (dCall F fs) σ H Q) : tCB r (tL c W (dArgs fs)) σ H Q := by
  refine (tG.one (R1 := RepL c) (f := dArgs fs) (k := fun ds _ => F ds) q).mono fun vs H1 q1 => ?_
  obtain ⟨e, L, T, G, ρ, ds, S, r, p⟩ := q1
  exact h e W L T G H1 σ ρ vs ds Q S r p
theorem callo_end {r : List V → Hp → VK → Prop} {F : List D → M (List D)} (h : CallO c r F) {σ : L2.St} {H : Hp} {Q : VK} (q : tO c W (oCall F fs) σ H Q) : tCB r (tL c W (dArgs fs)) σ H Q := by
  obtain ⟨e, L, T, G, ρ, S, p⟩ := q
  refine ⟨e, L, T, G, ρ, S, ?_⟩
  unfold oCall at p
  cases hr : dArgs fs ρ T with
  | bad => rw [bnd_bad hr] at p; exact p
  | exn k T' => rw [bnd_exn hr] at p; exact p
  | ok ds T' =>
    rw [bnd_ok hr] at p
    intro vs L' G' H' h1 h2 S' rv
    refine h e W L' T' G' H' σ ρ vs ds Q S' rv ?_
    revert p
    cases F ds T' with
    | bad => exact id
    | exn k t => exact fun p L2 G2 H2 h3 h4 => p L2 G2 H2 (h1.trans h3) (h2.trans h4)
    | ok ys t => exact fun p q L2 G2 H2 h3 h4 => p q L2 G2 H2 (h1.trans h3) (h2.trans h4)
theorem de_len0 (h : Ctx X c W k) (ha : PE X a (tD c W fa)) (ns : NS a := by intro _ _; rfl) (hg : Gl X "len" := by rfl) : PE X (.Call (.Name "len" p) [a] [] pos) (tD c W (dCall (F1 lenM0) [fa])) :=
  (pe_callB call_len_seq hg h.bl.len PySem.boot_len (da_cons ha da_nil (ns _ _)) (he := ns _ _)).imp fun σ H Q q => call_end (h.hK ▸ cd_len) q
theorem de_all (h : Ctx X c W k) (ha : PE X a (tD c W fa)) (ns : NS a := by intro _ _; rfl) (hg : Gl X "all" := by rfl) : PE X (.Call (.Name "all" p) [a] [] pos) (tD c W (dCall (F1 allM) [fa])) :=
  (pe_callB (cr_all h.calm) hg h.bl.all (by decide +kernel) (da_cons ha da_nil (ns _ _)) (he := ns _ _)).imp fun σ H Q q => call_end (h.hK ▸ cd_all) q
theorem de_any (h : Ctx X c W k) (ha : PE X a (tD c W fa)) (ns : NS a := by intro _ _; rfl) (hg : Gl X "any" := by rfl) : PE X (.Call (.Name "any" p) [a] [] pos) (tD c W (dCall (F1 anyM) [fa])) :=
  (pe_callB (cr_any h.calm) hg h.bl.any (by decide +kernel) (da_cons ha da_nil (ns _ _)) (he := ns _ _)).imp fun σ H Q q => call_end (h.hK ▸ cd_any) q
theorem de_tuple (h : Ctx X c W k) (ha : PE X a (tD c W fa)) (ns : NS a := by intro _ _; rfl) (hg : Gl X "tuple" := by rfl) : PE X (.Call (.Name "tuple" p) [a] [] pos) (tD c W (dCall (F1 tupleM) [fa])) :=
  (pe_callTy call_tuple_of hg h.bl.tuple (by decide +kernel) (da_cons ha da_nil (ns _ _)) (he := ns _ _)).imp fun σ H Q q => call_end (h.hK ▸ cd_tuple) q
theorem do_list (h : Ctx X c W k) (ha : PE X a (tD c W fa)) (ns : NS a := by intro _ _; rfl) (hg : Gl X "list" := by rfl) : PE X (.Call (.Name "list" p) [a] [] pos) (tO c W (oCall (F1 listM) [fa])) :=
  (pe_callTy call_list_of hg h.bl.list (by decide +kernel) (da_cons ha da_nil (ns _ _)) (he := ns _ _)).imp fun σ H Q q => callo_end (h.hK ▸ co_list) q
theorem CallR.orr {f : Value} {r r' : List V → Hp → VK → Prop} (h : CallR X f r) (h' : CallR X f r') : CallR X f (fun vs H Q => r vs H Q ∨ r' vs H Q) := fun pins s σ H xs us Q I rv q => q.elim (h pins s σ H xs us Q I rv) (h' pins s σ H xs us Q I rv)
theorem do_sorted (h : Ctx X c W k) (ha : PE X a (tD c W fa)) (ns : NS a := by intro _ _; rfl) (hg : Gl X "sorted" := by rfl) : PE X (.Call (.Name "sorted" p) [a] [] pos) (tO c W (oCall (F1 sortM) [fa])) :=
  (pe_callB (CallR.orr cr_sortedI cr_sortedT) hg h.bl.sorted (by decide +kernel) (da_cons ha da_nil (ns _ _)) (he := ns _ _)).imp fun σ H Q q => callo_end (h.hK ▸ co_sorted) q
def tyName : D → String
  | .non => "NoneType"
  | .bl _ => "bool"
  | .int _ => "int"
  | .str _ => "str"
  | .lst _ => "list"
  | .tup _ => "tuple"
  | _ => "?"
theorem rep_ty {e : Gh} {L : List (List Addr)} {T : List Cell} {G H : Hp} {σ : L2.St} {ρ : En} {v : V} {d : D} (S : Sta c e L T G H σ ρ) (r : Rep c L G v d) (hd : tyName d ≠ "?") : TyX c.K H v (.type (tyName d)) := by
  cases r with
  | non => exact .base .non
  | bl b => exact .base (.bl b)
  | int i => exact .base (.int i)
  | str s _ => exact .base (.str s)
  | lst h1 h2 h3 => exact .base (.lst (S.subS.lst h1))
  | tup h1 h2 h3 =>
    rcases S.subS.sqT h1 with (h | ⟨o, h⟩) | ⟨o, its, n, h, hc, _⟩
    · exact .base (.tup h)
    · exact .fTuple h
    · exact .kTuple h hc
  | _ => exact absurd rfl hd
theorem de_isi {Ty : String} {Tn : Str} {p2 : Pos} (h : Ctx X c W k) (ha : PE X a (tD c W fa)) (hT : bootBuiltins Tn = some (.type Ty)) (hm : X.mg Tn = none)
    (hk : ∀ d, tyName d ≠ "?" → ∃ b, kitB (tyName d) Ty = some b ∧ isiD Ty d = M.ret (.bl b)) (hn : Tn ≠ "__name__" := by decide) (hd : (Tn == ("__debug__" : Str)) = false := by decide) (hg : Gl X "isinstance" := by rfl) (hg2 : Gl X Tn := by rfl)
    (ns : NS a := by intro _ _; rfl) :
    PE X (.Call (.Name "isinstance" p) [a, .Name Tn p2] [] pos) (tD c W (d1 (isiD Ty) fa)) := by
  refine (pe_callB call_isi hg h.bl.isi (by decide +kernel) (pa_cons ha (pa_cons (pe_bltn hg2 hm hT (v := .ty Ty) rfl hn hd) pa_nil) (ns _ _)) (he := ns _ _)).imp fun σ H Q q => ?_
  refine (tD_one q).mono fun v H1 q1 => ?_
  obtain ⟨e, L, T, G, ρ, d, S, r, p⟩ := q1
  by_cases z : tyName d = "?"
  · cases d with
    | dct _ _ => exact p.bad
    | exc _ => exact p.bad
    | cell _ => exact p.bad
    | _ => exact absurd z (by simp [tyName])
  · obtain ⟨b, h1, h2⟩ := hk d z
    rw [h2] at p
    exact ⟨v, .ty Ty, .type (tyName d), .type Ty, b, rfl, .ty Ty, h.hK ▸ rep_ty S r z, kit_ty h1, p.val S (.bl _)⟩
theorem isi_int : ∀ d, tyName d ≠ "?" → ∃ b, kitB (tyName d) "int" = some b ∧ isiD "int" d = M.ret (.bl b)
  | .non, _ => ⟨false, by (dsimp only [tyName]; decide +kernel), rfl⟩
  | .bl _, _ => ⟨true, by (dsimp only [tyName]; decide +kernel), rfl⟩
  | .int _, _ => ⟨true, by (dsimp only [tyName]; decide +kernel), rfl⟩
  | .str _, _ => ⟨false, by (dsimp only [tyName]; decide +kernel), rfl⟩
  | .lst _, _ => ⟨false, by (dsimp only [tyName]; decide +kernel), rfl⟩
  | .tup _, _ => ⟨false, by (dsimp only [tyName]; decide +kernel), rfl⟩
  | .dct _ _, h => absurd rfl h
  | .exc _, h => absurd rfl h
  | .cell _, h => absurd rfl h
theorem isi_bool : ∀ d, tyName d ≠ "?" → ∃ b, kitB (tyName d) "bool" = some b ∧ isiD "bool" d = M.ret (.bl b)
  | .non, _ => ⟨false, by (dsimp only [tyName]; decide +kernel), rfl⟩
  | .bl _, _ => ⟨true, by (dsimp only [tyName]; decide +kernel), rfl⟩
  | .int _, _ => ⟨false, by (dsimp only [tyName]; decide +kernel), rfl⟩
  | .str _, _ => ⟨false, by (dsimp only [tyName]; decide +kernel), rfl⟩
  | .lst _, _ => ⟨false, by (dsimp only [tyName]; decide +kernel), rfl⟩
  | .tup _, _ => ⟨false, by (dsimp only [tyName]; decide +kernel), rfl⟩
  | .dct _ _, h => absurd rfl h
  | .exc _, h => absurd rfl h
  | .cell _, h => absurd rfl h
theorem isi_str : ∀ d, tyName d ≠ "?" → ∃ b, kitB (tyName d) "str" = some b ∧ isiD "str" d = M.ret (.bl b)
  | .non, _ => ⟨false, by (dsimp only [tyName]; decide +kernel), rfl⟩
  | .bl _, _ => ⟨false, by (dsimp only [tyName]; decide +kernel), rfl⟩
  | .int _, _ => ⟨false, by (dsimp only [tyName]; decide +kernel), rfl⟩
  | .str _, _ => ⟨true, by (dsimp only [tyName]; decide +kernel), rfl⟩
  | .lst _, _ => ⟨false, by (dsimp only [tyName]; decide +kernel), rfl⟩
  | .tup _, _ => ⟨false, by (dsimp only [tyName]; decide +kernel), rfl⟩
  | .dct _ _, h => absurd rfl h
  | .exc _, h => absurd rfl h
  | .cell _, h => absurd rfl h
theorem isi_list : ∀ d, tyName d ≠ "?" → ∃ b, kitB (tyName d) "list" = some b ∧ isiD "list" d = M.ret (.bl b)
  | .non, _ => ⟨false, by (dsimp only [tyName]; decide +kernel), rfl⟩
  | .bl _, _ => ⟨false, by (dsimp only [tyName]; decide +kernel), rfl⟩
  | .int _, _ => ⟨false, by (dsimp only [tyName]; decide +kernel), rfl⟩
  | .str _, _ => ⟨false, by (dsimp only [tyName]; decide +kernel), rfl⟩
  | .lst _, _ => ⟨true, by (dsimp only [tyName]; decide +kernel), rfl⟩
  | .tup _, _ => ⟨false, by (dsimp only [tyName]; decide +kernel), rfl⟩
  | .dct _ _, h => absurd rfl h
  | .exc _, h => absurd rfl h
  | .cell _, h => absurd rfl h
theorem isi_tuple : ∀ d, tyName d ≠ "?" → ∃ b, kitB (tyName d) "tuple" = some b ∧ isiD "tuple" d = M.ret (.bl b)
  | .non, _ => ⟨false, by (dsimp only [tyName]; decide +kernel), rfl⟩
  | .bl _, _ => ⟨false, by (dsimp only [tyName]; decide +kernel), rfl⟩
  | .int _, _ => ⟨false, by (dsimp only [tyName]; decide +kernel), rfl⟩
  | .str _, _ => ⟨false, by (dsimp only [tyName]; decide +kernel), rfl⟩
  | .lst _, _ => ⟨false, by (dsimp only [tyName]; decide +kernel), rfl⟩
  | .tup _, _ => ⟨true, by (dsimp only [tyName]; decide +kernel), rfl⟩
  | .dct _ _, h => absurd rfl h
  | .exc _, h => absurd rfl h
  | .cell _, h => absurd rfl h
theorem de_isi_int {p2 : Pos} (h : Ctx X c W k) (ha : PE X a (tD c W fa)) (hg : Gl X "isinstance" := by rfl) (hg2 : Gl X "int" := by rfl) (ns : NS a := by intro _ _; rfl) :
    PE X (.Call (.Name "isinstance" p) [a, .Name "int" p2] [] pos) (tD c W (d1 (isiD "int") fa)) := de_isi h ha (by decide +kernel) h.bl.int isi_int (by decide) (by decide) hg hg2 ns
theorem de_isi_bool {p2 : Pos} (h : Ctx X c W k) (ha : PE X a (tD c W fa)) (hg : Gl X "isinstance" := by rfl) (hg2 : Gl X "bool" := by rfl) (ns : NS a := by intro _ _; rfl) :
    PE X (.Call (.Name "isinstance" p) [a, .Name "bool" p2] [] pos) (tD c W (d1 (isiD "bool") fa)) := de_isi h ha (by decide +kernel) h.bl.bool isi_bool (by decide) (by decide) hg hg2 ns
theorem de_isi_str {p2 : Pos} (h : Ctx X c W k) (ha : PE X a (tD c W fa)) (hg : Gl X "isinstance" := by rfl) (hg2 : Gl X "str" := by rfl) (ns : NS a := by intro _ _; rfl) :
    PE X (.Call (.Name "isinstance" p) [a, .Name "str" p2] [] pos) (tD c W (d1 (isiD "str") fa)) := de_isi h ha (by decide +kernel) h.bl.str isi_str (by decide) (by decide) hg hg2 ns
theorem de_isi_list {p2 : Pos} (h : Ctx X c W k) (ha : PE X a (tD c W fa)) (hg : Gl X "isinstance" := by rfl) (hg2 : Gl X "list" := by rfl) (ns : NS a := by intro _ _; rfl) :
    PE X (.Call (.Name "isinstance" p) [a, .Name "list" p2] [] pos) (tD c W (d1 (isiD "list") fa)) := de_isi h ha (by decide +kernel) h.bl.list isi_list (by decide) (by decide) hg hg2 ns
theorem de_isi_tuple {p2 : Pos} (h : Ctx X c W k) (ha : PE X a (tD c W fa)) (hg : Gl X "isinstance" := by rfl) (hg2 : Gl X "tuple" := by rfl) (ns : NS a := by intro _ _; rfl) :
    PE X (.Call (.Name "isinstance" p) [a, .Name "tuple" p2] [] pos) (tD c W (d1 (isiD "tuple") fa)) := de_isi h ha (by decide +kernel) h.bl.tuple isi_tuple (by decide) (by decide) hg hg2 ns
end
/-- behind a call -/
structure After (c : Cfg) (L : List (List Addr)) (G H : Hp) (L' : List (List Addr)) (T' : List Cell) (G' H' : Hp) : Prop where
  le : LE L L'
  ge : Same G G'
  sub : Sub G' H'
  store : StoreRep c H' L' T'
  ldist : L'.flatten.Nodup
  lfree : ∀ a ∈ L'.flatten, G' a = none
  same : ∀ a o, H a = some o → a ∉ L.flatten → H' a = some o
  lnew : ∀ a ∈ L'.flatten, a ∈ L.flatten ∨ H a = none
  lthere : ∀ a ∈ L.flatten, H' a ≠ none
  gnew : ∀ a, G' a ≠ none → G a ≠ none ∨ H a = none
  lkeep : ∀ a ∈ L.flatten, G' a = none
/-- a def's promise: it does on data what F does -/
def spF (c : Cfg) (n : Nat) (F : List D → M D) : Sp := fun vs H Q E => vs.length = n ∧ ∃ L T G ds, Sub G H ∧ StoreRep c H L T ∧ L.flatten.Nodup ∧ (∀ a ∈ L.flatten, G a = none) ∧ RepL c L G vs ds ∧
  match F ds T with
  | .ok d T' => ∀ v L' G' H', After c L G H L' T' G' H' → Rep c L' G' v d → Q v H'
  | .exn k T' => ∀ L' G' H', After c L G H L' T' G' H' → E (.ref (c.CA k)) none H'
  | .bad => False
structure Fn (c : Cfg) (mg : Str → Option Value) (base : Heap) (x : Str) (ps : List Str) (k : Nat) (F : List D → M D) : Prop where
  ex : ∃ f fd, mg x = some (.ref f) ∧ PySem.W.keepIn c.K (.ref f) = true ∧ Binds c.K fd ps [] ∧ FnOk c.P c.w c.K mg base (L2.CX c.P c.w) k f fd ps (spF c ps.length F)
section
variable {c : Cfg} {e : Gh} {L L' : List (List Addr)} {G H G' H' : Hp} {T T' : List Cell} {σ : L2.St} {ρ : En}
theorem Sta.after (S : Sta c e L T G H σ ρ) (P : After c L G H L' T' G' H') : Sta c e L' T' G' H' σ ρ := by
  have h0 : ∀ a, a ∈ L.flatten → e.H0 a ≠ none → a ∉ e.L0.flatten → False := fun a h1 h2 h3 => (S.lmem0 a h1).elim h3 h2
  have own : ∀ {p : Addr} {o : HO}, H p = some o → G p = none → p ∉ L.flatten → H' p = some o ∧ G' p = none ∧ p ∉ L'.flatten := fun {p o} h1 h2 h3 => by
    refine ⟨P.same _ _ h1 h3, ?_, fun z => ?_⟩
    · cases q : G' p with
      | none => rfl
      | some u =>
        rcases P.gnew p (by rw [q]; simp) with z | z
        · exact absurd h2 z
        · rw [h1] at z; cases z
    · rcases P.lnew p z with y | y
      · exact h3 y
      · rw [h1] at y; cases y
  refine ⟨P.sub, fun a o ha hl => ?_, P.store, P.ldist, P.lfree, fun a ha => ?_, fun a ha => ?_, fun a ha => ?_, fun a ha => ?_, S.l0h, S.len, fun i sv hi => ?_, fun q hq => ?_, S.disj⟩
  · have nl : a ∉ L.flatten := fun z => h0 a z (by rw [ha]; simp) hl
    obtain ⟨z1, z2⟩ := S.same a o ha hl
    refine ⟨fun m => P.same _ _ (z1 m) nl, fun m => ?_⟩
    obtain ⟨ob, z⟩ := z2 m
    exact ⟨ob, P.same _ _ z nl⟩
  · rcases P.lnew a ha with z | z
    · exact S.lmem0 a z
    · by_cases m : a ∈ e.L0.flatten
      · exact .inl m
      · refine .inr ?_
        cases q : e.H0 a with
        | none => rfl
        | some o =>
          obtain ⟨z1, z2⟩ := S.same a o q m
          by_cases lk : a ∈ e.lk
          · obtain ⟨ob, y⟩ := z2 lk
            rw [z] at y; cases y
          · rw [z1 lk] at z; cases z
  · cases q : G' a with
    | none => rfl
    | some u =>
      rcases P.gnew a (by rw [q]; simp) with z | z
      · exact absurd (S.l0free a ha) z
      · exact absurd z (S.l0there a ha)
  · rcases P.gnew a ha with z | z
    · exact S.gnew a z
    · by_cases m : a ∈ e.L0.flatten
      · exact absurd z (S.l0there a m)
      · refine .inr ?_
        cases q : e.H0 a with
        | none => rfl
        | some o =>
          obtain ⟨z1, z2⟩ := S.same a o q m
          by_cases lk : a ∈ e.lk
          · obtain ⟨ob, y⟩ := z2 lk
            rw [z] at y; cases y
          · rw [z1 lk] at z; cases z
  · by_cases m : a ∈ L.flatten
    · exact P.lthere a m
    · have q := S.l0there a ha
      cases q2 : H a with
      | none => exact absurd q2 q
      | some o => rw [P.same a o q2 m]; simp
  · obtain ⟨v, h1, h2⟩ := S.slot i sv hi
    refine ⟨v, h1, ?_⟩
    cases sv with
    | d x => exact h2.up P.le P.ge
    | ol ds =>
      obtain ⟨p, vs, rfl, h3, h4, h5, h6, h7, h8⟩ := h2
      obtain ⟨k1, k2, k3⟩ := own h3 h6 h7
      exact ⟨p, vs, rfl, k1, h4.up P.le P.ge, h5, k2, k3, h8⟩
    | od ks vs =>
      obtain ⟨p, o, rfl, h3, h4, h6, h7, h8⟩ := h2
      obtain ⟨k1, k2, k3⟩ := own h3 h6 h7
      exact ⟨p, o, rfl, k1, h4.mono P.le P.ge, k2, k3, h8⟩
  · obtain ⟨h1, h2, h3, h4⟩ := S.xown q hq
    obtain ⟨k1, k2, k3⟩ := own h1 h2 h3
    exact ⟨k1, k2, k3, h4⟩
end
section
variable {X : Cx} {c : Cfg} {W : WX} {k j : Nat} {a b : Expr} {es : List Expr} {fa : Ex} {fs : List Ex} {pos p : Pos} {x : Str} {ps : List Str} {F : List D → M D}
theorem fn_end {σ : L2.St} {H : Hp} {Q : VK} (hl : fs.length = ps.length) (q : tD c W (dCall F fs) σ H Q) (ht : ∀ ρ T ds T', dArgs fs ρ T = .ok ds T' → ds.length = fs.length) : tCallS (spF c ps.length F) (WE W) (tL c W (dArgs fs)) σ H Q := by
  obtain ⟨e, L, T, G, ρ, S, p⟩ := q
  refine ⟨e, L, T, G, ρ, S, ?_⟩
  unfold dCall at p
  cases hr : dArgs fs ρ T with
  | bad => rw [bnd_bad hr] at p; exact p
  | exn k T' => rw [bnd_exn hr] at p; exact p
  | ok ds T' =>
    rw [bnd_ok hr] at p
    intro vs L' G' H' h1 h2 S' rv
    refine ⟨by rw [rv.length, ht _ _ _ _ hr, hl], L', T', G', ds, S'.subS, S'.store, S'.ldist, S'.lfree, rv, ?_⟩
    revert p
    cases F ds T' with
    | bad => exact id
    | exn k t => exact fun p L2 G2 H2 P => p L2 G2 H2 (h1.trans P.le) (h2.trans P.ge) (S'.after P)
    | ok y t => exact fun p v L2 G2 H2 P r => p v L2 G2 H2 (h1.trans P.le) (h2.trans P.ge) (S'.after P) r
theorem dArgs_length : ∀ (fs : List Ex) (ρ : En) (T : List Cell) (ds : List D) (T' : List Cell), dArgs fs ρ T = .ok ds T' → ds.length = fs.length
  | [], _, _, ds, _, h => by
    cases h; rfl
  | f :: fs, ρ, T, ds, T', h => by
    unfold dArgs at h
    cases h1 : f ρ T with
    | bad => rw [bnd_bad h1] at h; cases h
    | exn k t => rw [bnd_exn h1] at h; cases h
    | ok d t =>
      rw [bnd_ok h1] at h
      cases h2 : dArgs fs ρ t with
      | bad => rw [bnd_bad h2] at h; cases h
      | exn k t => rw [bnd_exn h2] at h; cases h
      | ok r t2 =>
        rw [bnd_ok h2] at h
        cases h
        rw [List.length_cons, List.length_cons, dArgs_length fs ρ t r _ h2]
/-- f(e, ..), a def of the text -/
theorem de_fn (h : Ctx X c W k) (C : Fn c X.mg X.base x ps j F) (ha : PA X (a :: es) (tL c W (dArgs fs))) (hl : fs.length = ps.length := by rfl) (hj : j ≤ k := by decide) (hg : Gl X x := by rfl) (hdb : (x == ("__debug__" : Str)) = false := by decide)
    (ns : NS a := by intro _ _; rfl) (hpl : (backTo pos (starEach es X.env)).any (·.1) = false := by rfl) :
    PE X (.Call (.Name x p) (a :: es) [] pos) (tD c W (dCall F fs)) := by
  obtain ⟨f, fd, h1, h2, h3, h4⟩ := C.ex
  have h4' : FnOk X.prog X.w X.K X.mg X.base (L2.CX X.prog X.w) j f fd ps (spF c ps.length F) := by rw [h.hP, h.hw, h.hK]; exact h4
  have h3' : Binds X.K fd ps [] := by rw [h.hK]; exact h3
  have h2' : PySem.W.keepIn X.K (.ref f) = true := by rw [h.hK]; exact h2
  exact (pe_callS h4' (h.room.mono hj) hg h1 h2' h3' (fun σ => passAt h.tk σ) ha hdb (ns _ _) hpl).imp fun σ H Q q => fn_end hl q (dArgs_length fs)
end
end WW
set_option maxHeartbeats 1000000
namespace WW
open PySem PySem.Spec PyProof.Rows L2
inductive Fl where
  | nx (ρ : En) | rt (d : D) | bk (ρ : En) | ct (ρ : En)
abbrev Sx := En → M Fl
def PostS (c : Cfg) (e : Gh) (W : WX) (L : List (List Addr)) (G : Hp) (r : Rs Fl) (D : Ends) : Prop := match r with
  | .ok (.nx ρ') T' => ∀ L' G' H' σ', LE L L' → Same G G' → Sta c e L' T' G' H' σ' ρ' → D.nx σ' H'
  | .ok (.bk ρ') T' => ∀ L' G' H' σ', LE L L' → Same G G' → Sta c e L' T' G' H' σ' ρ' → D.bk σ' H'
  | .ok (.ct ρ') T' => ∀ L' G' H' σ', LE L L' → Same G G' → Sta c e L' T' G' H' σ' ρ' → D.ct σ' H'
  | .ok (.rt d) T' => ∀ v L' G' H' σ' ρ', LE L L' → Same G G' → Sta c e L' T' G' H' σ' ρ' → Rep c L' G' v d → D.rt v H'
  | .exn k T' => ∀ L' G' H' σ' ρ', LE L L' → Same G G' → Sta c e L' T' G' H' σ' ρ' → W (.ref (c.CA k)) none σ' H'
  | .bad => False
def tS (c : Cfg) (W : WX) (f : Sx) : TS := fun D σ H => ∃ e L T G ρ, Sta c e L T G H σ ρ ∧ PostS c e W L G (f ρ T) D
theorem PostS.up {c : Cfg} {e : Gh} {W : WX} {L L1 : List (List Addr)} {G G1 : Hp} {r : Rs Fl} {D : Ends} (h : PostS c e W L G r D) (hL : LE L L1) (hG : Same G G1) : PostS c e W L1 G1 r D := by
  cases r with
  | bad => exact h
  | exn k T' => exact fun L' G' H' σ' ρ' h1 h2 S => h L' G' H' σ' ρ' (hL.trans h1) (hG.trans h2) S
  | ok f T' =>
    cases f with
    | nx ρ' => exact fun L' G' H' σ' h1 h2 S => h L' G' H' σ' (hL.trans h1) (hG.trans h2) S
    | bk ρ' => exact fun L' G' H' σ' h1 h2 S => h L' G' H' σ' (hL.trans h1) (hG.trans h2) S
    | ct ρ' => exact fun L' G' H' σ' h1 h2 S => h L' G' H' σ' (hL.trans h1) (hG.trans h2) S
    | rt d => exact fun v L' G' H' σ' ρ' h1 h2 S r => h v L' G' H' σ' ρ' (hL.trans h1) (hG.trans h2) S r
def sNil : Sx := fun ρ => M.ret (.nx ρ)
def onNx (t : Sx) : Fl → M Fl
  | .nx ρ' => t ρ'
  | f => M.ret f
def sSeq (s t : Sx) : Sx := fun ρ => s ρ >>= onNx t
def sIf (c : Tx) (s t : Sx) : Sx := fun ρ => c ρ >>= fun b => if b = true then s ρ else t ρ
def putE (ρ : En) (i : Nat) (d : D) : En := ρ.set i (some (.d d))
def sSet (i : Nat) (f : Ex) : Sx := fun ρ => f ρ >>= fun d => M.ret (.nx (putE ρ i d))
def sSetO (i : Nat) (f : Ox) : Sx := fun ρ => f ρ >>= fun ds => M.ret (.nx (ρ.set i (some (.ol ds))))
def sExpr (f : Ex) : Sx := fun ρ => f ρ >>= fun _ => M.ret (.nx ρ)
def sRet (f : Ex) : Sx := fun ρ => f ρ >>= fun d => M.ret (.rt d)
def sRetN : Sx := fun _ => M.ret (.rt .non)
def sRaise (k : Nat) : Sx := fun _ => M.rais k
def sBrk : Sx := fun ρ => M.ret (.bk ρ)
def sCnt : Sx := fun ρ => M.ret (.ct ρ)
/-- a list of the def's own becomes plain data -/
def frzE (i : Nat) (ρ : En) : En := match ρ[i]? with
  | some (some (.ol ds)) => ρ.set i (some (.d (.lst ds)))
  | some (some (.od ks vs)) => ρ.set i (some (.d (.dct ks vs)))
  | _ => ρ
def sFrz (i : Nat) (s : Sx) : Sx := fun ρ => s (frzE i ρ)
def setsE : List Nat → List D → En → En
  | i :: is, d :: ds, ρ => setsE is ds (putE ρ i d)
  | _, _, ρ => ρ
def sUnp (is : List Nat) (f : Ex) : Sx := fun ρ => f ρ >>= fun d => match d with
  | .tup ds => if ds.length = is.length then M.ret (.nx (setsE is ds ρ)) else M.fail
  | _ => M.fail
def sApp (i : Nat) (f : Ex) : Sx := fun ρ => match ρ[i]? with
  | some (some (.ol ds)) => f ρ >>= fun d => if ds.length < sizeLine then M.ret (.nx (ρ.set i (some (.ol (ds ++ [d]))))) else M.fail
  | _ => M.fail
section
variable {c : Cfg} {e : Gh} {W : WX} {σ : L2.St} {ρ : En} {L : List (List Addr)} {G H : Hp} {T : List Cell}
theorem get_set {α : Type} {l : List α} {i j : Nat} {x y : α} (h : (l.set i x)[j]? = some y) : (j = i ∧ y = x) ∨ (j ≠ i ∧ l[j]? = some y) := by
  by_cases e : j = i
  · subst e
    by_cases z : j < l.length
    · rw [List.getElem?_set_self z] at h
      exact .inl ⟨rfl, (Option.some.inj h).symm⟩
    · rw [List.getElem?_eq_none (by simpa using z)] at h
      cases h
  · rw [List.getElem?_set_ne (Ne.symm e)] at h
    exact .inr ⟨e, h⟩
theorem set_lt {α : Type} {l : List α} {i : Nat} {x y : α} (h : (l.set i x)[i]? = some y) : i < l.length := by
  by_cases z : i < l.length
  · exact z
  · rw [List.getElem?_eq_none (by simpa using z)] at h
    cases h
/-- a slot gets data -/
theorem Sta.put (S : Sta c e L T G H σ ρ) {i : Nat} {v : V} {d : D} (r : Rep c L G v d) : Sta c e L T G H (σ.set i (some v)) (putE ρ i d) := by
  have ln := S.len
  unfold putE
  refine ⟨S.sub, S.same, S.store, S.ldist, S.lfree, S.lmem0, S.l0free, S.gnew, S.l0there, S.l0h, by rw [List.length_set, List.length_set, S.len], fun j sv h => ?_, fun q hq => ?_, fun j k x y hjk hj hk ox oy => ?_⟩
  · have h' := h
    rcases get_set h with ⟨rfl, e1⟩ | ⟨hj, h⟩
    · cases e1
      have lt := set_lt h'
      exact ⟨v, by rw [List.getElem?_set_self (by omega)], r⟩
    · obtain ⟨u, h1, h2⟩ := S.slot j sv h
      exact ⟨u, by rw [List.getElem?_set_ne (Ne.symm hj)]; exact h1, h2⟩
  · obtain ⟨h1, h2, h3, h4, h5, h6⟩ := S.xown q hq
    refine ⟨h1, h2, h3, h4, h5, fun j sv h ow => ?_⟩
    rcases get_set h with ⟨rfl, e1⟩ | ⟨hj, h⟩
    · cases e1; exact ow.elim
    · rw [List.getElem?_set_ne (Ne.symm hj)]; exact h6 j sv h ow
  · rcases get_set hj with ⟨rfl, e1⟩ | ⟨n1, h1⟩
    · cases e1; exact ox.elim
    · rcases get_set hk with ⟨rfl, e2⟩ | ⟨n2, h2⟩
      · cases e2; exact oy.elim
      · rw [List.getElem?_set_ne (Ne.symm n1), List.getElem?_set_ne (Ne.symm n2)]
        exact S.disj j k x y hjk h1 h2 ox oy
/-- a slot gets a list of its own -/
theorem Sta.putO (S : Sta c e L T G H σ ρ) {i : Nat} {p : Addr} {ds : List D} (fr : FreshL c e L G H σ ρ p ds) : Sta c e L T G H (σ.set i (some (.ref p))) (ρ.set i (some (.ol ds))) := by
  have ln := S.len
  obtain ⟨vs, hv, rv, hz⟩ := fr.at_
  refine ⟨S.sub, S.same, S.store, S.ldist, S.lfree, S.lmem0, S.l0free, S.gnew, S.l0there, S.l0h, by rw [List.length_set, List.length_set, S.len], fun j sv h => ?_, fun q hq => ?_, fun j k x y hjk hj hk ox oy => ?_⟩
  · have h' := h
    rcases get_set h with ⟨rfl, e1⟩ | ⟨hj, h⟩
    · cases e1
      have lt := set_lt h'
      exact ⟨.ref p, by rw [List.getElem?_set_self (by omega)], p, vs, rfl, hv, rv, hz, fr.g, fr.l, fr.h0⟩
    · obtain ⟨u, h1, h2⟩ := S.slot j sv h
      exact ⟨u, by rw [List.getElem?_set_ne (Ne.symm hj)]; exact h1, h2⟩
  · obtain ⟨h1, h2, h3, h4, h5, h6⟩ := S.xown q hq
    refine ⟨h1, h2, h3, h4, h5, fun j sv h ow => ?_⟩
    have h' := h
    rcases get_set h with ⟨rfl, e1⟩ | ⟨hj, h⟩
    · have lt := set_lt h'
      rw [List.getElem?_set_self (by omega)]
      intro z
      cases z
      exact fr.xo q hq rfl
    · rw [List.getElem?_set_ne (Ne.symm hj)]; exact h6 j sv h ow
  · have hj' := hj
    have hk' := hk
    rcases get_set hj with ⟨rfl, e1⟩ | ⟨n1, h1⟩
    · have lt := set_lt hj'
      rcases get_set hk with ⟨rfl, e2⟩ | ⟨n2, h2⟩
      · exact absurd rfl hjk
      · rw [List.getElem?_set_self (by omega), List.getElem?_set_ne (Ne.symm n2)]
        exact fun z => fr.sl k y h2 oy z.symm
    · rcases get_set hk with ⟨rfl, e2⟩ | ⟨n2, h2⟩
      · have lt := set_lt hk'
        rw [List.getElem?_set_self (by omega), List.getElem?_set_ne (Ne.symm n1)]
        exact fun z => fr.sl j x h1 ox z
      · rw [List.getElem?_set_ne (Ne.symm n1), List.getElem?_set_ne (Ne.symm n2)]
        exact S.disj j k x y hjk h1 h2 ox oy
/-- a slot of data is read no more as what it was -/
theorem Sta.relabel (S : Sta c e L T G H σ ρ) {i : Nat} {v : V} {d : D} (hv : σ[i]? = some (some v)) (r : Rep c L G v d) : Sta c e L T G H σ (putE ρ i d) := by
  have q := S.put (i := i) r
  have e1 : σ.set i (some v) = σ := by
    apply List.ext_getElem?
    intro j
    by_cases z : j = i
    · subst z
      have lt : j < σ.length := (List.getElem?_eq_some_iff.mp hv).1
      rw [List.getElem?_set_self lt, hv]
    · rw [List.getElem?_set_ne (Ne.symm z)]
  rw [e1] at q
  exact q
theorem Sta.nl0 (S : Sta c e L T G H σ ρ) {p : Addr} (h : e.H0 p = none) : p ∉ e.L0.flatten := fun z => S.l0h p z h
theorem Sta.forget (S : Sta c e L T G H σ ρ) (i : Nat) : Sta c e L T G H σ (ρ.set i none) := by
  refine ⟨S.sub, S.same, S.store, S.ldist, S.lfree, S.lmem0, S.l0free, S.gnew, S.l0there, S.l0h, by rw [List.length_set, S.len], fun j sv h => ?_, fun q hq => ?_, fun j k x y hjk hj hk ox oy => ?_⟩
  · rcases get_set h with ⟨rfl, e1⟩ | ⟨hj, h⟩
    · cases e1
    · exact S.slot j sv h
  · obtain ⟨h1, h2, h3, h4, h5, h6⟩ := S.xown q hq
    refine ⟨h1, h2, h3, h4, h5, fun j sv h ow => ?_⟩
    rcases get_set h with ⟨rfl, e1⟩ | ⟨hj, h⟩
    · cases e1
    · exact h6 j sv h ow
  · rcases get_set hj with ⟨rfl, e1⟩ | ⟨n1, h1⟩
    · cases e1
    · rcases get_set hk with ⟨rfl, e2⟩ | ⟨n2, h2⟩
      · cases e2
      · exact S.disj j k x y hjk h1 h2 ox oy
theorem frz_core (S : Sta c e L T G H σ ρ) {i : Nat} {sv : SV} {p : Addr} {o : HO} {d : D} (hi : ρ[i]? = some (some sv)) (ow : Own sv) (hv : σ[i]? = some (some (.ref p))) (hp : H p = some o) (hg : G p = none) (hl : p ∉ L.flatten) (h0 : e.H0 p = none)
    (r : Rep c L (upd G p o) (.ref p) d) : ∃ G', Same G G' ∧ Sta c e L T G' H σ (putE ρ i d) := by
  have S1 := S.forget i
  have S2 := S1.freeze hp hg hl (S.nl0 h0) h0 (fun q hq z => (S.xown q hq).2.2.2.2.2 i sv hi ow (by rw [hv, z])) fun j sv' h ow' z => by
    rcases get_set h with ⟨rfl, e1⟩ | ⟨hj, h⟩
    · cases e1
    · exact S.disj j i sv' sv hj h hi ow' ow (by rw [z, hv])
  refine ⟨upd G p o, same_upd hg, ?_⟩
  have S3 := S2.relabel (i := i) hv r
  have e1 : putE (ρ.set i none) i d = putE ρ i d := by unfold putE; rw [List.set_set]
  rw [e1] at S3
  exact S3
/-- a thing that no slot owns is written -/
theorem Sta.hset (S : Sta c e L T G H σ ρ) {p : Addr} {o' : HO} (hg : G p = none) (hl : p ∉ L.flatten) (h0 : e.H0 p = none) (hx : ∀ q ∈ e.xo, q.1 ≠ p) (hs : ∀ (i : Nat) (sv : SV), ρ[i]? = some (some sv) → Own sv → σ[i]? ≠ some (some (.ref p))) : Sta c e L T G (upd H p o') σ ρ := by
  have ne : ∀ {a : Addr} {u : HO}, a ≠ p → H a = some u → upd H p o' a = some u := fun n h => by rw [upd_ne n]; exact h
  have nl0 := S.nl0 h0
  refine ⟨fun a u h => ?_, fun a u h hl' => ?_, S.store.keeps fun a ha u h => ne (fun z => hl (z ▸ ha)) h, S.ldist, S.lfree, S.lmem0, S.l0free, S.gnew, fun a ha => ?_, S.l0h, S.len, fun i sv h => ?_, fun q hq => ?_, S.disj⟩
  · have n : a ≠ p := fun z => by rw [z, hg] at h; cases h
    rcases S.sub a u h with z | ⟨z, ob, y⟩
    · exact .inl (ne n z)
    · exact .inr ⟨z, ob, ne n y⟩
  · have n : a ≠ p := fun z => by rw [z, h0] at h; cases h
    obtain ⟨z1, z2⟩ := S.same a u h hl'
    refine ⟨fun m => ne n (z1 m), fun m => ?_⟩
    obtain ⟨ob, z⟩ := z2 m
    exact ⟨ob, ne n z⟩
  · rw [upd_ne (show a ≠ p from fun z => nl0 (z ▸ ha))]
    exact S.l0there a ha
  · obtain ⟨v, h1, h2⟩ := S.slot i sv h
    refine ⟨v, h1, ?_⟩
    cases sv with
    | d x => exact h2
    | ol ds =>
      obtain ⟨q, vs, rfl, h3, h4⟩ := h2
      exact ⟨q, vs, rfl, ne (fun z => hs i _ h trivial (by rw [h1, z])) h3, h4⟩
    | od ks vs =>
      obtain ⟨q, u, rfl, h3, h4⟩ := h2
      exact ⟨q, u, rfl, ne (fun z => hs i _ h trivial (by rw [h1, z])) h3, h4⟩
  · obtain ⟨h1, h2⟩ := S.xown q hq
    exact ⟨ne (hx q hq) h1, h2⟩
/-- a list of the def's own, or none, is frozen -/
theorem Sta.frz (S : Sta c e L T G H σ ρ) (i : Nat) (hd : ∀ ks vs, ρ[i]? ≠ some (some (.od ks vs))) : ∃ G', Same G G' ∧ Sta c e L T G' H σ (frzE i ρ) := by
  rcases h : ρ[i]? with _ | _ | sv
  · exact ⟨G, Same.refl _, by simp only [frzE, h]; exact S⟩
  · exact ⟨G, Same.refl _, by simp only [frzE, h]; exact S⟩
  · cases sv with
    | d x => exact ⟨G, Same.refl _, by simp only [frzE, h]; exact S⟩
    | ol ds =>
      obtain ⟨v, hv, p, vs, rfl, hp, rv, hz, hg, hl, h0⟩ := S.slot i _ h
      simp only [frzE, h]
      exact frz_core S h trivial hv hp hg hl h0 (.lst upd_same (rv.up (LE.refl _) (same_upd hg)) hz)
    | od ks vs => exact absurd h (hd ks vs)
/-- a dict of the def's own is held, then frozen -/
theorem Sta.hold (S : Sta c e L T G H σ ρ) {i : Nat} {ks vs : List D} (h : ρ[i]? = some (some (.od ks vs))) : ∃ p o, H p = some o ∧ Mut (some o) ∧ ∀ ob, ∃ G', Same G G' ∧ Sta c e L T G' (upd H p (.frz ob o)) σ (frzE i ρ) := by
  obtain ⟨v, hv, p, o, rfl, hp, dr, hg, hl, h0⟩ := S.slot i _ h
  have mu : Mut (some o) := by rcases dr with ⟨kvs, rfl, _⟩ | ⟨es, rfl, _⟩ <;> trivial
  refine ⟨p, o, hp, mu, fun ob => ?_⟩
  have ns : ∀ (j : Nat) (sv : SV), (ρ.set i none)[j]? = some (some sv) → Own sv → σ[j]? ≠ some (some (.ref p)) := fun j sv h' ow z => by
    rcases get_set h' with ⟨rfl, e1⟩ | ⟨hj, h'⟩
    · cases e1
    · exact S.disj j i sv _ hj h' h ow trivial (by rw [z, hv])
  have nx : ∀ q ∈ e.xo, q.1 ≠ p := fun q hq z => (S.xown q hq).2.2.2.2.2 i _ h trivial (by rw [hv, z])
  have S1 := (S.forget i).hset (o' := .frz ob o) hg hl h0 nx ns
  have S2 := S1.freeze (o := .frz ob o) upd_same hg hl (S.nl0 h0) h0 nx ns
  refine ⟨upd G p (.frz ob o), same_upd hg, ?_⟩
  have S3 := S2.relabel (i := i) hv ((dr.mono (LE.refl _) (same_upd hg)).rep upd_same)
  have e1 : putE (ρ.set i none) i (.dct ks vs) = putE ρ i (.dct ks vs) := by unfold putE; rw [List.set_set]
  rw [e1] at S3
  simp only [frzE, h]
  exact S3
/-- a statement behind the holding of a dict -/
theorem ps_hold {X : Cx} {st : Stmt} {t : TS} (h : PS X st t) : PS X st (fun D σ H => t D σ H ∨ ∃ p u, H p = some u ∧ Mut (some u) ∧ ∀ ob, t D σ (upd H p (.frz ob u))) := by
  refine ⟨fun pn s σ H D I hw => ?_⟩
  rcases hw with hw | ⟨p, u, hp, mu, hw⟩
  · exact h.run pn s σ H D I hw
  · obtain ⟨ob, I1⟩ := I.lock hp mu
    exact h.run pn s σ _ D I1 (hw ob)
end
section
variable {X : Cx} {c : Cfg} {W : WX} {k : Nat} {a b : Expr} {st : Stmt} {sts sts' : List Stmt} {fa fb : Ex} {f g : Sx} {t : Tx} {pos pos' : Pos} {x : Str}
theorem ds_nil : PSs X [] (tS c W sNil) := pss_nil.imp fun D σ H ⟨e, L, T, G, ρ, S, p⟩ => p L G H σ (LE.refl _) (Same.refl _) S
theorem seq_end {D : Ends} {σ : L2.St} {H : Hp} (q : tS c W (sSeq f g) D σ H) : tSeq (tS c W f) (tS c W g) D σ H := by
  obtain ⟨e, L, T, G, ρ, S, p⟩ := q
  refine ⟨e, L, T, G, ρ, S, ?_⟩
  unfold sSeq at p
  cases hr : f ρ T with
  | bad => rw [bnd_bad hr] at p; exact p
  | exn k T' => rw [bnd_exn hr] at p; exact p
  | ok fl T' =>
    rw [bnd_ok hr] at p
    cases fl with
    | nx ρ' => exact fun L' G' H' σ' h1 h2 S' => ⟨e, L', T', G', ρ', S', PostS.up p h1 h2⟩
    | bk ρ' => exact p
    | ct ρ' => exact p
    | rt d => exact p
theorem ds_cons (h1 : PS X st (tS c W f)) (h2 : PSs X sts (tS c W g)) : PSs X (st :: sts) (tS c W (sSeq f g)) := (pss_cons h1 h2).imp fun D σ H q => seq_end q
theorem ds_one (h1 : PS X st (tS c W f)) : PSs X [st] (tS c W f) := pss_one h1
theorem ds_frz (i : Nat) (h : PS X st (tS c W f)) : PS X st (tS c W (sFrz i f)) := (ps_hold h).imp fun D σ H ⟨e, L, T, G, ρ, S, p⟩ => by
  by_cases z : ∃ ks vs, ρ[i]? = some (some (.od ks vs))
  · obtain ⟨ks, vs, z⟩ := z
    obtain ⟨q, o, h1, mu, h2⟩ := S.hold z
    refine .inr ⟨q, o, h1, mu, fun ob => ?_⟩
    obtain ⟨G', hg, S'⟩ := h2 ob
    exact ⟨e, L, T, G', _, S', PostS.up p (LE.refl _) hg⟩
  · obtain ⟨G', hg, S'⟩ := S.frz i fun ks vs y => z ⟨ks, vs, y⟩
    exact .inl ⟨e, L, T, G', _, S', PostS.up p (LE.refl _) hg⟩
theorem ds_if (hc : PT X a (tT c W t)) (h1 : PSs X sts (tS c W f)) (h2 : PSs X sts' (tS c W g)) : PS X (.If a sts sts' pos) (tS c W (sIf t f g)) := by
  refine (ps_if hc h1 h2).imp fun D σ H q => ?_
  obtain ⟨e, L, T, G, ρ, S, p⟩ := q
  refine ⟨e, L, T, G, ρ, S, ?_⟩
  unfold sIf at p
  cases hr : t ρ T with
  | bad => rw [bnd_bad hr] at p; exact p
  | exn k T' => rw [bnd_exn hr] at p; exact fun L' G' H' h1 h2 S' => p L' G' H' σ ρ h1 h2 S'
  | ok b T' =>
    rw [bnd_ok hr] at p
    intro v L' G' H' h1 h2 S' e1
    subst e1
    cases v with
    | true => exact ⟨e, L', T', G', ρ, S', PostS.up p h1 h2⟩
    | false => exact ⟨e, L', T', G', ρ, S', PostS.up p h1 h2⟩
/-- an expression ahead of what its value is for -/
theorem ex_end {F : D → En → M Fl} {D : Ends} {σ : L2.St} {H : Hp} (q : tS c W (fun ρ => fa ρ >>= fun d => F d ρ) D σ H) : tD c W fa σ H fun v H1 => ∃ e L T G ρ d, Sta c e L T G H1 σ ρ ∧ Rep c L G v d ∧ PostS c e W L G (F d ρ T) D := by
  obtain ⟨e, L, T, G, ρ, S, p⟩ := q
  refine ⟨e, L, T, G, ρ, S, ?_⟩
  dsimp only at p
  cases hr : fa ρ T with
  | bad => rw [bnd_bad hr] at p; exact p
  | exn k T' => rw [bnd_exn hr] at p; exact fun L' G' H' h1 h2 S' => p L' G' H' σ ρ h1 h2 S'
  | ok d T' =>
    rw [bnd_ok hr] at p
    exact fun v L' G' H' h1 h2 S' r => ⟨e, L', T', G', ρ, d, S', r, PostS.up p h1 h2⟩
theorem ds_ret (ha : PE X a (tD c W fa)) : PS X (.Return (some a) pos) (tS c W (sRet fa)) := (ps_ret ha).imp fun D σ H q => (ex_end (F := fun d _ => M.ret (.rt d)) q).mono fun v H1 q1 => by
  obtain ⟨e, L, T, G, ρ, d, S, r, p⟩ := q1
  exact p v L G H1 σ ρ (LE.refl _) (Same.refl _) S r
theorem ds_retN : PS X (.Return none pos) (tS c W sRetN) := ps_retN.imp fun D σ H ⟨e, L, T, G, ρ, S, p⟩ => p .non L G H σ ρ (LE.refl _) (Same.refl _) S .non
theorem ds_expr (ha : PE X a (tD c W fa)) (hs : swapsWith a none pos.line X.env = pure false := by rfl) : PS X (.Expr a pos) (tS c W (sExpr fa)) := (ps_expr ha hs).imp fun D σ H q => (ex_end (F := fun _ ρ => M.ret (.nx ρ)) q).mono fun v H1 q1 => by
  obtain ⟨e, L, T, G, ρ, d, S, r, p⟩ := q1
  exact p L G H1 σ (LE.refl _) (Same.refl _) S
theorem ds_set (i : Nat) (h : Ctx X c W k) (ha : PE X a (tD c W fa)) (hi : X.N[i]? = some x := by rfl) (hx : Loc X.env.scope x := by first | exact Or.inl rfl | exact Or.inr rfl) (hs : swapsWith a (some (.Name x pos')) pos.line X.env = pure false := by rfl) (hf : X.fn x = true ∨ X.env.scope.names.lookup x = some .local := by first | exact .inl rfl | exact .inr rfl) :
    PS X (.Assign [.Name x pos'] a pos) (tS c W (sSet i fa)) := (ps_set h.nd hi hx ha hs hf).imp fun D σ H q => (ex_end (F := fun d ρ => M.ret (.nx (putE ρ i d))) q).mono fun v H1 q1 => by
  obtain ⟨e, L, T, G, ρ, d, S, r, p⟩ := q1
  exact p L G H1 _ (LE.refl _) (Same.refl _) (S.put r)
theorem ds_setO (i : Nat) {fo : Ox} (h : Ctx X c W k) (ha : PE X a (tO c W fo)) (hi : X.N[i]? = some x := by rfl) (hx : Loc X.env.scope x := by first | exact Or.inl rfl | exact Or.inr rfl) (hs : swapsWith a (some (.Name x pos')) pos.line X.env = pure false := by rfl) (hf : X.fn x = true ∨ X.env.scope.names.lookup x = some .local := by first | exact .inl rfl | exact .inr rfl) :
    PS X (.Assign [.Name x pos'] a pos) (tS c W (sSetO i fo)) := (ps_set h.nd hi hx ha hs hf).imp fun D σ H q => by
  obtain ⟨e, L, T, G, ρ, S, p⟩ := q
  refine ⟨e, L, T, G, ρ, S, ?_⟩
  unfold sSetO at p
  cases hr : fo ρ T with
  | bad => rw [bnd_bad hr] at p; exact p
  | exn k T' => rw [bnd_exn hr] at p; exact fun L' G' H' h1 h2 S' => p L' G' H' σ ρ h1 h2 S'
  | ok ds T' =>
    rw [bnd_ok hr] at p
    exact fun q L' G' H' h1 h2 S' fr => p L' G' H' _ h1 h2 (S'.putO fr)
theorem ds_pass : PS X (.Pass pos) (tS c W sNil) := ps_pass.imp fun D σ H ⟨e, L, T, G, ρ, S, p⟩ => p L G H σ (LE.refl _) (Same.refl _) S
theorem ds_brk : PS X (.Break pos) (tS c W sBrk) := ps_break.imp fun D σ H ⟨e, L, T, G, ρ, S, p⟩ => p L G H σ (LE.refl _) (Same.refl _) S
theorem ds_cnt : PS X (.Continue pos) (tS c W sCnt) := ps_continue.imp fun D σ H ⟨e, L, T, G, ρ, S, p⟩ => p L G H σ (LE.refl _) (Same.refl _) S
/-- a target's reading -/
def gD (c : Cfg) (is : List Nat) (f : D → En → Option En) : TG := fun v σ H Q => ∃ e L T G ρ d, Sta c e L T G H σ ρ ∧ Rep c L G v d ∧ match f d ρ with
  | some ρ' => ∀ σ', Sta c e L T G H σ' ρ' → (∀ j, j ∉ is → σ'[j]? = σ[j]?) → Q σ' H
  | none => False
def bName (i : Nat) : D → En → Option En := fun d ρ => some (putE ρ i d)
def bTup (is : List Nat) : D → En → Option En := fun d ρ => match d with
  | .tup ds => if ds.length = is.length then some (setsE is ds ρ) else none
  | _ => none
theorem dg_name (i : Nat) (h : Ctx X c W k) (hi : X.N[i]? = some x := by rfl) (hx : Loc X.env.scope x := by first | exact Or.inl rfl | exact Or.inr rfl) (hf : X.fn x = true ∨ X.env.scope.names.lookup x = some .local := by first | exact .inl rfl | exact .inr rfl) : PG X (.Name x pos) (gD c [i] (bName i)) := by
  refine ⟨fun pins s σ H v u Q I r q => (pg_name h.nd hi hx hf).run pins s σ H v u Q I r ?_⟩
  obtain ⟨e, L, T, G, ρ, d, S, rv, p⟩ := q
  exact p _ (S.put rv) fun j hj => List.getElem?_set_ne (fun z => hj (by simp [z]))
/-- names, one after another -/
structure PNs (X : Cx) (es : List Expr) (is : List Nat) : Prop where
  pg : PGs X es (fun vs σ H Q => vs.length = is.length ∧ Q ((is.zip vs).foldl (fun s q => s.set q.1 (some q.2)) σ) H)
theorem pn_nil : PNs X [] [] := ⟨⟨fun pins s σ H vs us Q I r q => pgs_nil.run pins s σ H vs us Q I r ⟨List.eq_nil_of_length_eq_zero q.1, q.2⟩⟩⟩
theorem pn_cons (i : Nat) {es : List Expr} {is : List Nat} (h : Ctx X c W k) (hr : PNs X es is) (hi : X.N[i]? = some x := by rfl) (hx : Loc X.env.scope x := by first | exact Or.inl rfl | exact Or.inr rfl) (hf : X.fn x = true ∨ X.env.scope.names.lookup x = some .local := by first | exact .inl rfl | exact .inr rfl)
    (hs : (assignEach (.Name x pos :: es) X.env).map (·.2) = assign (.Name x pos) X.env :: (assignEach es X.env).map (·.2) := by rfl) : PNs X (.Name x pos :: es) (i :: is) := by
  refine ⟨⟨fun pins s σ H vs us Q I r q => ?_⟩⟩
  obtain ⟨q1, q2⟩ := q
  cases vs with
  | nil => cases q1
  | cons v vs =>
    exact (pgs_cons (pg_name h.nd hi hx hf) hr.pg hs).run pins s σ H _ us Q I r ⟨v, vs, rfl, by simpa using q1, q2⟩
theorem sets_ok {e : Gh} {L : List (List Addr)} {T : List Cell} {G H : Hp} : ∀ {is : List Nat} {vs : List V} {ds : List D} {σ : L2.St} {ρ : En}, Sta c e L T G H σ ρ → RepL c L G vs ds → Sta c e L T G H ((is.zip vs).foldl (fun s q => s.set q.1 (some q.2)) σ) (setsE is ds ρ)
  | [], _, _, _, _, S, _ => by simpa [setsE] using S
  | i :: is, _, _, _, _, S, .nil => by simpa [setsE] using S
  | i :: is, _, _, _, _, S, .cons r1 r2 => by
    rw [List.zip_cons_cons, List.foldl_cons]
    exact sets_ok (S.put r1) r2
theorem foldl_out {α : Type} : ∀ {is : List Nat} {vs : List α} {σ : List (Option α)} {j : Nat}, j ∉ is → ((is.zip vs).foldl (fun s q => s.set q.1 (some q.2)) σ)[j]? = σ[j]?
  | [], _, _, _, _ => by simp
  | i :: is, [], _, _, _ => by simp
  | i :: is, v :: vs, σ, j, h => by
    rw [List.zip_cons_cons, List.foldl_cons, foldl_out (fun z => h (List.mem_cons_of_mem _ z)), List.getElem?_set_ne (show i ≠ j from fun z => h (z ▸ List.mem_cons_self))]
theorem dg_tup {es : List Expr} {is : List Nat} {kk : Nat} (h : Ctx X c W k) (hn : PNs X es is) (hl : (assignEach es X.env).length = is.length := by rfl) (hst : (assignEach es X.env).findIdx? (·.1) = none := by rfl) : PG X (.Tuple es kk pos) (gD c is (bTup is)) := by
  refine ⟨fun pins s σ H v u Q I r q => (pg_tup h.calm hn.pg hl hst).run pins s σ H v u Q I r ?_⟩
  obtain ⟨e, L, T, G, ρ, d, S, rv, p⟩ := q
  cases d with
  | tup ds =>
    cases rv with
    | @tup a vs _ h1 h2 h3 =>
      simp only [bTup] at p
      by_cases z : ds.length = is.length
      · rw [if_pos z] at p
        have e1 : vs.length = is.length := by rw [h2.length]; exact z
        exact ⟨a, vs, rfl, by rw [h.hK]; exact S.subS.sqT h1, e1, e1, p _ (sets_ok S h2) fun j hj => foldl_out hj⟩
      · rw [if_neg z] at p; exact p.elim
  | _ => exact False.elim p
/-- a, b, .. = e -/
theorem ds_unp {es : List Expr} {is : List Nat} {kk : Nat} {tp : Pos} (h : Ctx X c W k) (hn : PNs X es is) (ha : PE X a (tD c W fa)) (hl : (assignEach es X.env).length = is.length := by rfl) (hst : (assignEach es X.env).findIdx? (·.1) = none := by rfl)
    (hs : swapsWithSole [.Tuple es kk tp] a pos.line X.env = pure false := by rfl) (hw : swappedStores [.Tuple es kk tp] a X.env = pure none := by rfl) (h1 : (assignEach [.Tuple es kk tp] X.env).map (·.2) = [assign (.Tuple es kk tp) X.env] := by rfl) :
    PS X (.Assign [.Tuple es kk tp] a pos) (tS c W (sUnp is fa)) := by
  refine (ps_asg ha (dg_tup h hn hl hst) hs hw h1).imp fun D σ H q => (ex_end (F := fun d ρ => match d with
    | .tup ds => if ds.length = is.length then M.ret (.nx (setsE is ds ρ)) else M.fail
    | _ => M.fail) q).mono fun v H1 q1 => ?_
  obtain ⟨e, L, T, G, ρ, d, S, r, p⟩ := q1
  refine ⟨e, L, T, G, ρ, d, S, r, ?_⟩
  cases d with
  | tup ds =>
    simp only [bTup]
    dsimp only at p
    by_cases z : ds.length = is.length
    · rw [if_pos z] at p ⊢
      exact fun σ' S' _ => p L G H1 σ' (LE.refl _) (Same.refl _) S'
    · rw [if_neg z] at p; exact False.elim p
  | _ => exact False.elim p
/-- xs.append(e), xs a list of the def's own -/
theorem ds_app (i : Nat) {apos cpos : Pos} (h : Ctx X c W k) (ha : PE X a (tD c W fa)) (hi : X.N[i]? = some x := by rfl) (hv : Vis X.env.scope x := by first | exact Or.inl rfl | exact Or.inr (Or.inl rfl) | exact Or.inr (Or.inr rfl)) (hd : (x == ("__debug__" : Str)) = false := by decide) (hcd : (x == ("__classdict__" : Str)) = false := by decide)
    (hs : swapsWith (.Call (.Attribute (.Name x pos') "append" apos) [a] [] cpos) none pos.line X.env = pure false := by rfl) (ns : NS a := by intro _ _; rfl)
    (hbase : attributeBase (.Name x pos') "append" X.env (eval (.Name x pos') X.env) = eval (.Name x pos') X.env := by rfl)
    (hfew : ((backTo cpos (starEach [a] X.env)).all (fun x => !x.1) && (backToKw cpos (keywordEach [] X.env)).all (fun x => x.1.isSome)
      && decide (([a] : List Expr).length + ([] : List Keyword).length + (if ([] : List Keyword).isEmpty then 0 else 1) < 30)) = true := by rfl) (hline : (apos.endLine == cpos.line) = true := by rfl) :
    PS X (.Expr (.Call (.Attribute (.Name x pos') "append" apos) [a] [] cpos) pos) (tS c W (sApp i fa)) := by
  refine (ps_expr (pe_bm PySem.F.plainAttrs_list PySem.F.slot_list_append PySem.F.type_list_append mt_append (pe_var hi hv hd hcd) (pa_cons ha pa_nil (ns _ _)) hbase hfew hline (ns _ _)) hs).imp fun D σ H q => ?_
  obtain ⟨e, L, T, G, ρ, S, p⟩ := q
  -- the list stands where it stood
  have own : ∀ {ds : List WW.D}, ρ[i]? = some (some (.ol ds)) → ∀ {L' : List (List Addr)} {T' : List Cell} {G' H' : Hp}, Sta c e L' T' G' H' σ ρ → ∃ q vs, σ[i]? = some (some (.ref q)) ∧ H' q = some (.lst vs) ∧ RepL c L' G' vs ds ∧ ds.length ≤ sizeLine ∧ G' q = none ∧ q ∉ L'.flatten ∧ e.H0 q = none := fun {ds} hρ {L' T' G' H'} S' => by
    obtain ⟨v, h1, q, vs, rfl, h2⟩ := S'.slot i _ hρ
    exact ⟨q, vs, h1, h2⟩
  rcases hρ : ρ[i]? with _ | _ | sv
  case some.some =>
    cases sv with
    | ol ds =>
      obtain ⟨q0, vs0, hσ, hq0, _⟩ := own hρ S
      refine ⟨.ref q0, hσ, .inl ⟨rfl, _, SqL.of hq0⟩, e, L, T, G, ρ, S, ?_⟩
      simp only [sApp, hρ] at p
      cases hr : fa ρ T with
      | bad => rw [bnd_bad hr] at p; exact p
      | exn k T' => rw [bnd_exn hr] at p; exact fun L' G' H' h1 h2 S' => p L' G' H' σ ρ h1 h2 S'
      | ok d T' =>
        rw [bnd_ok hr] at p
        intro v L' G' H' h1 h2 S' rv
        obtain ⟨q1, vs, hσ', hq, rvs, hz, hg, hl, h0⟩ := own hρ S'
        rw [hσ] at hσ'
        cases hσ'
        by_cases z : ds.length < sizeLine
        · rw [if_pos z] at p
          refine ⟨q0, vs, v, rfl, rfl, hq, by rw [rvs.length]; exact z, ?_⟩
          refine p L' G' _ σ h1 h2 ?_
          have nl0 := S'.nl0 h0
          have ne : ∀ {a : Addr} {o : HO}, a ≠ q0 → H' a = some o → upd H' q0 (.lst (vs ++ [v])) a = some o := fun n e => by rw [upd_ne n]; exact e
          refine ⟨fun a o ha => ?_, fun a o ha hl => ?_, S'.store.keeps fun a ha o q => ne (fun z => hl (z ▸ ha)) q, S'.ldist, S'.lfree, S'.lmem0, S'.l0free, S'.gnew, fun a ha => ?_, S'.l0h, by rw [List.length_set, S'.len], fun j sv h => ?_, fun q hq => ?_, fun j k x y hjk hj hk ox oy => ?_⟩
          · have n : a ≠ q0 := fun z => by rw [z, hg] at ha; cases ha
            rcases S'.sub a o ha with z | ⟨z1, ob, z⟩
            · exact .inl (ne n z)
            · exact .inr ⟨z1, ob, ne n z⟩
          · have n : a ≠ q0 := fun z => by rw [z, h0] at ha; cases ha
            obtain ⟨z1, z2⟩ := S'.same a o ha hl
            refine ⟨fun m => ne n (z1 m), fun m => ?_⟩
            obtain ⟨ob, z⟩ := z2 m
            exact ⟨ob, ne n z⟩
          · rw [upd_ne (show a ≠ q0 from fun z => nl0 (z ▸ ha))]
            exact S'.l0there a ha
          · rcases get_set h with ⟨rfl, e1⟩ | ⟨hj, h⟩
            · cases e1
              exact ⟨.ref q0, hσ, q0, _, rfl, upd_same, rvs.snoc rv, by rw [List.length_append]; exact z, hg, hl, h0⟩
            · obtain ⟨w, w1, w2⟩ := S'.slot j sv h
              refine ⟨w, w1, ?_⟩
              cases sv with
              | d x => exact w2
              | ol es =>
                obtain ⟨q, us, rfl, y1, y2⟩ := w2
                have n : q ≠ q0 := fun z => S'.disj j i _ _ hj h hρ trivial trivial (by rw [w1, hσ, z])
                exact ⟨q, us, rfl, ne n y1, y2⟩
              | od ks us =>
                obtain ⟨q, o, rfl, y1, y2⟩ := w2
                have n : q ≠ q0 := fun z => S'.disj j i _ _ hj h hρ trivial trivial (by rw [w1, hσ, z])
                exact ⟨q, o, rfl, ne n y1, y2⟩
          · obtain ⟨w1, w2, w3, w4, w5, w6⟩ := S'.xown q hq
            have n : q.1 ≠ q0 := fun z => w6 i _ hρ trivial (by rw [hσ, z])
            refine ⟨ne n w1, w2, w3, w4, w5, fun j sv h ow => ?_⟩
            rcases get_set h with ⟨rfl, e1⟩ | ⟨hj, h⟩
            · rw [hσ]; exact fun z => n (by cases z; rfl)
            · exact w6 j sv h ow
          · rcases get_set hj with ⟨rfl, e1⟩ | ⟨n1, y1⟩
            · rcases get_set hk with ⟨rfl, e2⟩ | ⟨n2, y2⟩
              · exact absurd rfl hjk
              · exact S'.disj _ k _ y (Ne.symm n2) hρ y2 trivial oy
            · rcases get_set hk with ⟨rfl, e2⟩ | ⟨n2, y2⟩
              · exact S'.disj j _ x _ n1 y1 hρ ox trivial
              · exact S'.disj j k x y hjk y1 y2 ox oy
        · rw [if_neg z] at p; exact False.elim p
    | _ => simp only [sApp, hρ] at p; exact False.elim p
  all_goals (simp only [sApp, hρ] at p; exact False.elim p)
end
end WW
set_option maxHeartbeats 1000000
namespace WW
open PySem PySem.Spec PyProof.Rows L2
theorem meets_enum1 {v : Value} {o : Obj} {P : Heap → Prop} (B : Begins v o P) :
    Meets (Builtin.«enumerate.__new__» ⟨[.type "enumerate", v], []⟩) (fun _ R s => P s.heap ∧
      R (.ok (.ret (.ref (s.heap.push o).objs.size))) { s with heap := (s.heap.push o).push { cls := .type "enumerate", data := .fields #[.none, .bool false, .ref s.heap.objs.size, rawInt 0, .none, .none] } }) :=
  .of_wp fun prog w A R s h => by
    obtain ⟨hp, gg, dd, tt, oo⟩ := s
    obtain ⟨p1, h⟩ := h
    have hsub := PySem.sub_enumerate
    have nxt : ∀ {A' : Around} {E : Value → Shared → Prop} {Q : Value → Shared → Prop}, Q (.ref hp.objs.size) ⟨hp.push o, gg, dd, tt, oo⟩ → wpAny (model prog w) A' (pyIter v) Q E ⟨hp, gg, dd, tt, oo⟩ :=
      fun q => B.iter prog w _ _ ⟨hp, gg, dd, tt, oo⟩ _ p1 q
    wp_walk using nxt
    refine wpAny_stack_any fun st => wpAny_pure ?_
    split
    · rename_i c _ _ _ _ _
      cases (c == Value.type "enumerate")
      · wp_walk using nxt
        exact ⟨_, rfl, h⟩
      · wp_walk using nxt
        exact ⟨_, rfl, h⟩
    · wp_walk using nxt
      exact ⟨_, rfl, h⟩
theorem call_enum1 {prog : Program} {w : World} {A : Around} {E : Value → Shared → Prop} {s : Shared} {v : Value} {o : Obj} {P : Heap → Prop} {Q : Value → Shared → Prop} (B : Begins v o P) (p1 : P s.heap)
    (h : ∀ h', IsEnum h' (s.heap.objs.size + 1) s.heap.objs.size 0 .none → h'.get? s.heap.objs.size = some o → (∀ b u, s.heap.get? b = some u → h'.get? b = some u) → Q (.ref (s.heap.objs.size + 1)) { s with heap := h' }) :
    wpAny (model prog w) A (call (.type "enumerate") [v]) Q E s := by
  refine callType_new F.called_enumerate (by decide) (F.typeCall_enumerate_1 _) (F.newCall_enumerate_1 _) (fun ob => F.args_object_init_2 ob _) F.entry_enumerate_new (meets_enum1 B) ⟨p1, ?_⟩
  have sz : (s.heap.push o).objs.size = s.heap.objs.size + 1 := Heap.size_push ..
  show _ ∧ _
  rw [sz]
  have en : IsEnum ((s.heap.push o).push { cls := .type "enumerate", data := .fields #[.none, .bool false, .ref s.heap.objs.size, rawInt 0, .none, .none] }) (s.heap.objs.size + 1) s.heap.objs.size 0 .none := by
    have q := Heap.get?_push_size (s.heap.push o) (o := { cls := .type "enumerate", data := .fields #[.none, .bool false, .ref s.heap.objs.size, rawInt 0, .none, .none] }) rfl
    rw [sz] at q
    exact q
  exact ⟨⟨_, en, rfl⟩, h _ en (Heap.get?_push_of_some _ (Heap.get?_push_size _ B.free)) fun b u y => Heap.get?_push_of_some _ (Heap.get?_push_of_some _ y)⟩
/-- the tuple at a, each item in a new pair -/
def Itf (K : PySem.W.Frag) (a : Addr) : It :=
  ⟨fun i H => ∃ (xs : List V) (x : V), SqT K H a xs ∧ xs[i]? = some x, fun i H v H' => ∃ T x, v = .ref T ∧ H T = none ∧ H' = upd H T (.tup [.int (i : Nat), x]) ∧ ∀ xs, SqT K H a xs → xs[i]? = some x, fun i H => ∃ xs : List V, SqT K H a xs ∧ xs.length = i⟩
theorem turn_enumT {P : Program} {w : World} {K : PySem.W.Frag} {els : List Expr} {kx : Nat} {tp : Pos} (a en it : Addr) (hai : a ≠ it) (hae : a ≠ en) :
    Turn P w K (.Tuple els kx tp) (Itf K a) [en, it] en (fun i h => (∃ old, IsEnum h en it ((i : Nat) : Int) old) ∧ h.IsTupleIter it a i ∧ en ≠ it) where
  mem := by simp
  obj := fun i h st b hb => by
    obtain ⟨⟨old, he⟩, ⟨o, ho, oc, od⟩, _⟩ := st
    have z' : b = en ∨ b = it := by simpa using hb
    rcases z' with z | z
    · rw [z]; exact ⟨_, he, fun v q => nomatch q⟩
    · rw [z]; exact ⟨o, ho, fun v q => by rw [od] at q; cases q⟩
  keep := fun i h h' st kp => let ⟨⟨old, he⟩, hi, ne⟩ := st; ⟨⟨old, kp en (by simp) _ he⟩, hi.at fun o q => kp it (by simp) o q, ne⟩
  item := by
    intro X hP hw hK hc i pins s σ H E I hf st hg
    subst hP hw hK
    obtain ⟨⟨old, he⟩, hit, ne⟩ := st
    obtain ⟨xs, x, sq, hx⟩ := hg
    obtain ⟨its, rv, p, hz⟩ := I.tuple sq
    obtain ⟨u, hu, ru⟩ := rv.get hx
    have l1 : en < s.heap.objs.size := Heap.lt_size he
    have l2 : it < s.heap.objs.size := by obtain ⟨_, q, _⟩ := hit; exact Heap.lt_size q
    have hil : i < its.toArray.size := by
      have := (List.getElem?_eq_some_iff.mp hu).1
      simpa using this
    refine wpAny_pyNext_enum_itemD (Draws.tuple (show X.A.in1.handled = none from I.ok.hd hc) it a hai its.toArray) he ⟨hit, show s.heap.IsTuple a its.toArray from p⟩ hil ne (by simp [ne, hae.symm]) fun y h' tk hy ho hst hT _ kk => ?_
    have yu : y = u := by
      have z1 : its.toArray[i]? = some u := by simpa using hu
      rw [z1] at hy
      exact (Option.some.inj hy).symm
    subst yu
    refine ⟨_, rfl, wpAny_letOwnedTupleGo_enum (s := { s with heap := h', toks := tk + 1 }) ho fun h'' he' sb => ?_⟩
    have T2 : h''.get? s.heap.objs.size = some { cls := .type "tuple", data := .seq #[.int i tk, y] } := (sb.2 _ (Nat.ne_of_gt l1)).trans hT
    have nw : ObjOk X.prog X.w (upd H s.heap.objs.size (.tup [.int (i : Nat), x])) h'' s.heap.objs.size (.tup [.int (i : Nat), x]) :=
      ⟨by show 2 ≤ sizeLine; decide, [.int i tk, y], .cons ⟨_, rfl⟩ (.cons ru .nil), ⟨_, T2, rfl, _, rfl⟩⟩
    have I1 : Inv X pins σ (upd H s.heap.objs.size (.tup [.int (i : Nat), x])) { s with heap := h'', toks := tk + 1 } :=
      I.turnedNew (ch := [en, it]) (fun b ob hb q => (sb.2 b (fun z => hb (by simp [z]))).trans (kk b ob (fun z => hb (by simp [z])) (fun z => hb (by simp [z])) q)) hf (Nat.le_refl _) nw
    refine ⟨.ref s.heap.objs.size, _, I1, rfl, ⟨_, x, rfl, I.hok.fresh (Nat.le_refl _), rfl, fun ys hy => by rw [I.tuple_inj hy sq]; exact hx⟩, ⟨⟨y, ?_⟩, hst.1.at fun o q => (sb.2 it (Ne.symm ne)).trans q, ne⟩, fun b hb => ?_⟩
    · have e1 : ((i + 1 : Nat) : Int) = (i : Int) + 1 := by omega
      rw [e1]
      exact he'
    · have lt : b < s.heap.objs.size := by
        have z' : b = en ∨ b = it := by simpa using hb
        rcases z' with z | z
        · rw [z]; exact l1
        · rw [z]; exact l2
      rw [upd_ne (Nat.ne_of_lt lt)]
      exact (hf b hb).1
  done := by
    intro X hP hw hK hc i pins s σ H E I hf st hg
    subst hP hw hK
    obtain ⟨⟨old, he⟩, hit, ne⟩ := st
    obtain ⟨xs, sq, hx⟩ := hg
    obtain ⟨its, rv, p, hz⟩ := I.tuple sq
    obtain ⟨f0, f1, f2, f3, f4, f5⟩ := hf it (by simp)
    have hl := rv.length
    obtain ⟨o, ho, oc, od⟩ := id hit
    have sz : its.toArray.size = i := by simp; omega
    refine wpAny_pyNext_enum_endD (Draws.tuple (show X.A.in1.handled = none from I.ok.hd hc) it a hai its.toArray) he (by rw [sz]; exact ⟨hit, show s.heap.IsTuple a its.toArray from p⟩) fun h' eb => ⟨rfl, I.turned (t' := s.toks) (fun b o hb q => eb b o hb q) f0 f1 f3 f4 f5⟩
  self := fun A i s Q E st h => let ⟨⟨_, he⟩, _⟩ := st; wpAny_pyIter_enum he h
end WW
set_option maxHeartbeats 1000000
namespace WW
open PySem PySem.Spec PyProof.Rows L2
abbrev Sr := En → M (List D)
/-- the iterator walks these data, whatever happens meanwhile -/
def Wk (c : Cfg) (L : List (List Addr)) (G : Hp) (J : It) (xs : List D) : Prop := ∀ (e : Gh) (L' : List (List Addr)) (T' : List Cell) (G' H' : Hp) (σ : L2.St) (ρ : En), LE L L' → Same G G' → Sta c e L' T' G' H' σ ρ → ∀ i, i ≤ xs.length →
  (∀ x, xs[i]? = some x → J.go i H' ∧ ∀ v H'', J.yld i H' v H'' → ∃ G'', Same G' G'' ∧ Sta c e L' T' G'' H'' σ ρ ∧ Rep c L' G'' v x) ∧ (xs[i]? = none → J.stop i H')
def tI (c : Cfg) (W : WX) (f : Sr) : TI := fun σ H R => ∃ e L T G ρ, Sta c e L T G H σ ρ ∧ match f ρ T with
  | .ok xs T' => ∀ J L' G' H', LE L L' → Same G G' → Sta c e L' T' G' H' σ ρ → Wk c L' G' J xs → xs.length ≤ sizeLine → R J H'
  | .exn k T' => ∀ L' G' H', LE L L' → Same G G' → Sta c e L' T' G' H' σ ρ → W (.ref (c.CA k)) none σ H'
  | .bad => False
theorem Wk.up {c : Cfg} {L L1 : List (List Addr)} {G G1 : Hp} {J : It} {xs : List D} (h : Wk c L G J xs) (hL : LE L L1) (hG : Same G G1) : Wk c L1 G1 J xs := fun e L' T' G' H' σ ρ h1 h2 S => h e L' T' G' H' σ ρ (hL.trans h1) (hG.trans h2) S
theorem _root_.L2.PI.imp {X : Cx} {tg it : Expr} {t t' : TI} (h : PI X tg it t) (i : ∀ σ H R, t' σ H R → t σ H R) : PI X tg it t' := ⟨fun pn st σ H R I q => h.run pn st σ H R I (i σ H R q)⟩
def seqM0 : D → M (List D)
  | .lst xs => M.ret xs
  | .tup xs => M.ret xs
  | _ => M.fail
def iSeq0 (f : Ex) : Sr := fun ρ => f ρ >>= seqM0
def rngL (lo : Int) (n : Nat) : List D := (List.range n).map fun (k : Nat) => .int (lo + (k : Int))
def rngC (lo s : Int) (n : Nat) : List D := (List.range n).map fun (k : Nat) => .int (lo + (k : Int) * s)
def inB (i : Int) : Bool := decide (-(2 ^ 62) ≤ i ∧ i < 2 ^ 62)
def rng1M : List D → M (List D)
  | [.int j] => if inB j && decide (j.toNat ≤ sizeLine) then M.ret (rngL 0 j.toNat) else M.fail
  | _ => M.fail
def rng2M : List D → M (List D)
  | [.int i, .int j] => if inB i && inB j && decide ((j - i).toNat ≤ sizeLine) then M.ret (rngL i (j - i).toNat) else M.fail
  | _ => M.fail
def rng3M : List D → M (List D)
  | [.int i, .int j, .int s] => if decide (s = -1) && inB i && inB j && decide ((i - j).toNat ≤ sizeLine) then M.ret (rngC i (-1) (i - j).toNat) else M.fail
  | _ => M.fail
def enumL (xs : List D) : List D := xs.mapIdx fun i x => .tup [.int (i : Nat), x]
def enumM : List D → M (List D)
  | [.lst xs] => M.ret (enumL xs)
  | [.tup xs] => M.ret (enumL xs)
  | _ => M.fail
def iCall (F : List D → M (List D)) (as : List Ex) : Sr := fun ρ => dArgs as ρ >>= F
def bigOne : (1 : Nat) ≤ sizeLine := by decide
section
variable {c : Cfg} {L : List (List Addr)} {G H : Hp}
theorem wk_list {a : Addr} {vs : List V} {ds : List D} (h : G a = some (.lst vs)) (r : RepL c L G vs ds) : Wk c L G (Itl c.K a) ds := by
  intro e L' T' G' H' σ ρ h1 h2 S i hi
  have q : SqL c.K H' a vs := .of (S.subS.lst (h2 _ _ h))
  refine ⟨fun x hx => ?_, fun hx => ⟨vs, q, by rw [r.length]; exact List.getElem?_eq_none_iff.mp hx⟩⟩
  obtain ⟨v, hv, rv⟩ := r.get hx
  refine ⟨⟨vs, v, q, hv⟩, fun u H'' y => ?_⟩
  obtain ⟨rfl, y⟩ := y
  have z := y vs q
  rw [hv] at z
  cases z
  exact ⟨G', Same.refl _, S, rv.up h1 h2⟩
theorem wk_tup {a : Addr} {vs : List V} {ds : List D} (h : SqT c.K G a vs) (r : RepL c L G vs ds) : Wk c L G (Itt c.K a) ds := by
  intro e L' T' G' H' σ ρ h1 h2 S i hi
  have q : SqT c.K H' a vs := S.subS.sqT (sqT_mono h2 h)
  refine ⟨fun x hx => ?_, fun hx => ⟨vs, q, by rw [r.length]; exact List.getElem?_eq_none_iff.mp hx⟩⟩
  obtain ⟨v, hv, rv⟩ := r.get hx
  refine ⟨⟨vs, v, q, hv⟩, fun u H'' y => ?_⟩
  obtain ⟨rfl, y⟩ := y
  have z := y vs q
  rw [hv] at z
  cases z
  exact ⟨G', Same.refl _, S, rv.up h1 h2⟩
theorem wk_rng {lo : Int} {n : Nat} : Wk c L G (Itr lo n) (rngL lo n) := by
  intro e L' T' G' H' σ ρ h1 h2 S i hi
  unfold rngL
  refine ⟨fun x hx => ?_, fun hx => ?_⟩
  · rw [List.getElem?_map] at hx
    cases q : (List.range n)[i]? with
    | none => rw [q] at hx; cases hx
    | some k =>
      rw [q] at hx
      cases hx
      obtain ⟨lt, e1⟩ := List.getElem?_eq_some_iff.mp q
      rw [List.getElem_range] at e1
      subst e1
      refine ⟨show i < n by simpa using lt, fun u H'' y => ?_⟩
      obtain ⟨rfl, rfl⟩ := y
      exact ⟨G', Same.refl _, S, .int _⟩
  · show n ≤ i
    simpa using hx
theorem wk_rngC {lo s : Int} {n : Nat} : Wk c L G (Itc lo s n) (rngC lo s n) := by
  intro e L' T' G' H' σ ρ h1 h2 S i hi
  unfold rngC
  refine ⟨fun x hx => ?_, fun hx => ?_⟩
  · rw [List.getElem?_map] at hx
    cases q : (List.range n)[i]? with
    | none => rw [q] at hx; cases hx
    | some k =>
      rw [q] at hx
      cases hx
      obtain ⟨lt, e1⟩ := List.getElem?_eq_some_iff.mp q
      rw [List.getElem_range] at e1
      subst e1
      refine ⟨show i < n by simpa using lt, fun u H'' y => ?_⟩
      obtain ⟨rfl, rfl⟩ := y
      exact ⟨G', Same.refl _, S, .int _⟩
  · show n ≤ i
    simpa using hx
theorem enum_get {xs : List D} {i : Nat} {y : D} (h : (enumL xs)[i]? = some y) : ∃ x, xs[i]? = some x ∧ y = .tup [.int (i : Nat), x] := by
  unfold enumL at h
  rw [List.getElem?_mapIdx] at h
  cases q : xs[i]? with
  | none => rw [q] at h; cases h
  | some x => rw [q] at h; cases h; exact ⟨x, rfl, rfl⟩
theorem pair_new {e : Gh} {T : List Cell} {σ : L2.St} {ρ : En} (S : Sta c e L T G H σ ρ) {p : Addr} (hp : H p = none) {v : V} {x : D} {i : Nat} (r : Rep c L G v x) :
    ∃ G'', Same G G'' ∧ Sta c e L T G'' (upd H p (.tup [.int (i : Nat), v])) σ ρ ∧ Rep c L G'' (.ref p) (.tup [.int (i : Nat), x]) :=
  ⟨_, same_upd (S.gnone hp), S.new hp _, .tup (.of upd_same) (.cons (.int _) (.cons (r.up (LE.refl _) (same_upd (S.gnone hp))) .nil)) (show 2 ≤ sizeLine by decide)⟩
theorem wk_enumL {a : Addr} {vs : List V} {ds : List D} (h : G a = some (.lst vs)) (r : RepL c L G vs ds) : Wk c L G (Ite c.K a) (enumL ds) := by
  intro e L' T' G' H' σ ρ h1 h2 S i hi
  have q : SqL c.K H' a vs := .of (S.subS.lst (h2 _ _ h))
  refine ⟨fun x hx => ?_, fun hx => ⟨vs, q, by rw [r.length]; simpa [enumL] using hx⟩⟩
  obtain ⟨x', hx', rfl⟩ := enum_get hx
  obtain ⟨v, hv, rv⟩ := r.get hx'
  refine ⟨⟨vs, v, q, hv⟩, fun u H'' y => ?_⟩
  obtain ⟨p, x0, rfl, hp, rfl, y⟩ := y
  have z := y vs q
  rw [hv] at z
  cases z
  exact pair_new S hp (rv.up h1 h2)
theorem wk_enumT {a : Addr} {vs : List V} {ds : List D} (h : SqT c.K G a vs) (r : RepL c L G vs ds) : Wk c L G (Itf c.K a) (enumL ds) := by
  intro e L' T' G' H' σ ρ h1 h2 S i hi
  have q : SqT c.K H' a vs := S.subS.sqT (sqT_mono h2 h)
  refine ⟨fun x hx => ?_, fun hx => ⟨vs, q, ?_⟩⟩
  · obtain ⟨x', hx', rfl⟩ := enum_get hx
    obtain ⟨v, hv, rv⟩ := r.get hx'
    refine ⟨⟨vs, v, q, hv⟩, fun u H'' y => ?_⟩
    obtain ⟨p, x0, rfl, hp, rfl, y⟩ := y
    have z := y vs q
    rw [hv] at z
    cases z
    exact pair_new S hp (rv.up h1 h2)
  · have e1 := r.length
    have e2 : (enumL ds).length = ds.length := by simp [enumL]
    have e3 := List.getElem?_eq_none_iff.mp hx
    omega
end
section
variable {X : Cx} {c : Cfg} {W : WX} {k : Nat} {tg a : Expr} {es : List Expr} {fa : Ex} {fs : List Ex} {pos p : Pos}
/-- a source told by a value ahead of it -/
theorem src_end {β α : Type} {R0 : List (List Addr) → Hp → β → α → Prop} {f : En → M α} {F : α → M (List D)} {σ : L2.St} {H : Hp} {R : It → Hp → Prop} (q : tI c W (fun ρ => f ρ >>= F) σ H R) :
    tG c W R0 f σ H fun v H1 => ∃ e L T G ρ d, Sta c e L T G H1 σ ρ ∧ R0 L G v d ∧ match F d T with
      | .ok xs T' => ∀ J L' G' H', LE L L' → Same G G' → Sta c e L' T' G' H' σ ρ → Wk c L' G' J xs → xs.length ≤ sizeLine → R J H'
      | .exn k T' => ∀ L' G' H', LE L L' → Same G G' → Sta c e L' T' G' H' σ ρ → W (.ref (c.CA k)) none σ H'
      | .bad => False := by
  obtain ⟨e, L, T, G, ρ, S, p⟩ := q
  refine ⟨e, L, T, G, ρ, S, ?_⟩
  dsimp only at p
  cases hr : f ρ T with
  | bad => rw [bnd_bad hr] at p; exact p
  | exn k T' => rw [bnd_exn hr] at p; exact p
  | ok d T' =>
    rw [bnd_ok hr] at p
    intro v L' G' H' h1 h2 S' r
    refine ⟨e, L', T', G', ρ, d, S', r, ?_⟩
    revert p
    cases F d T' with
    | bad => exact id
    | exn k t => exact fun p L2 G2 H2 h3 h4 => p L2 G2 H2 (h1.trans h3) (h2.trans h4)
    | ok xs t => exact fun p J L2 G2 H2 h3 h4 => p J L2 G2 H2 (h1.trans h3) (h2.trans h4)
/-- a list or a tuple -/
theorem pi_seq {tl : TE} (hl : PE X a tl) : PI X tg a (fun σ H R => tl σ H fun x H1 => ∃ q, x = .ref q ∧ (((∃ xs, SqL X.K H1 q xs) ∧ R (Itl X.K q) H1) ∨ ((∃ xs, SqT X.K H1 q xs) ∧ R (Itt X.K q) H1))) := by
  refine ⟨fun pn st σ H R I hh => ?_⟩
  refine thn (hl.run pn st σ H _ I hh) fun v s1 ⟨x, H1, I1, r1, q, ex, alt⟩ => ?_
  subst ex
  cases r1
  have own : ∀ b ∈ [s1.heap.objs.size], FpOk X pn H1 b := fun b hb => by
    rw [List.mem_singleton.mp hb]
    exact I1.fpOk (Nat.le_refl _) (I1.hok.fresh (Nat.le_refl _))
  rcases alt with ⟨⟨xs, sq⟩, z⟩ | ⟨⟨xs, sq⟩, z⟩
  · obtain ⟨its, rv, il, hz⟩ := I1.list sq
    exact wpAny_pyIter_list il.isList ⟨s1.heap.objs.size, [s1.heap.objs.size], _, _, H1, rfl, I1.kept (t' := s1.toks) fun b o e => Heap.get?_push_of_some _ e, turn_list q _, ⟨_, Heap.get?_push_size _ rfl, rfl, rfl⟩, own, z⟩
  · obtain ⟨its, rv, il, hz⟩ := I1.tuple sq
    exact wpAny_pyIter_tuple (show s1.heap.IsTuple q its.toArray from il) ⟨s1.heap.objs.size, [s1.heap.objs.size], _, _, H1, rfl, I1.kept (t' := s1.toks) fun b o e => Heap.get?_push_of_some _ e, turn_tuple q _, ⟨_, Heap.get?_push_size _ rfl, rfl, rfl⟩, own, z⟩
theorem di_seq0 (h : Ctx X c W k) (ha : PE X a (tD c W fa)) : PI X tg a (tI c W (iSeq0 fa)) := by
  refine (pi_seq ha).imp fun σ H R q => (src_end (R0 := Rep c) (F := seqM0) q).mono fun v H1 q1 => ?_
  obtain ⟨e, L, T, G, ρ, d, S, r, p⟩ := q1
  rw [h.hK]
  cases r with
  | @lst a vs ds h1 h2 h3 => exact ⟨a, rfl, .inl ⟨⟨vs, .of (S.subS.lst h1)⟩, p _ L G H1 (LE.refl _) (Same.refl _) S (wk_list h1 h2) h3⟩⟩
  | @tup a vs ds h1 h2 h3 => exact ⟨a, rfl, .inr ⟨⟨vs, S.subS.sqT h1⟩, p _ L G H1 (LE.refl _) (Same.refl _) S (wk_tup h1 h2) h3⟩⟩
  | _ => exact False.elim p
theorem inB_iff {i : Int} : inB i = true ↔ (-(2 ^ 62) ≤ i ∧ i < 2 ^ 62) := by unfold inB; exact decide_eq_true_iff
theorem rngL_len (lo : Int) (n : Nat) : (rngL lo n).length = n := by simp [rngL]
theorem di_range1 (h : Ctx X c W k) (ha : PE X a (tD c W fa)) (ns : NS a := by intro _ _; rfl) (hg : Gl X "range" := by rfl) : PI X tg (.Call (.Name "range" p) [a] [] pos) (tI c W (iCall rng1M [fa])) := by
  refine (pi_range1 hg h.bl.range (da_cons ha da_nil (ns _ _)) (ns _ _)).imp fun σ H R q => (src_end (R0 := RepL c) (F := rng1M) q).mono fun v H1 q1 => ?_
  obtain ⟨e, L, T, G, ρ, ds, S, r, p⟩ := q1
  match ds, r, p with
  | [.int j], .cons (.int _) .nil, p =>
    simp only [rng1M] at p
    by_cases z : (inB j && decide (j.toNat ≤ sizeLine)) = true
    · rw [if_pos z] at p
      simp only [Bool.and_eq_true, decide_eq_true_eq] at z
      exact ⟨j, rfl, (inB_iff.mp z.1).1, (inB_iff.mp z.1).2, p _ L G H1 (LE.refl _) (Same.refl _) S wk_rng (by rw [rngL_len]; exact z.2)⟩
    · rw [if_neg z] at p; exact False.elim p
theorem di_range2 {b : Expr} {fb : Ex} (h : Ctx X c W k) (ha : PE X a (tD c W fa)) (hb : PE X b (tD c W fb)) (ns : NS a := by intro _ _; rfl) (ns2 : NS b := by intro _ _; rfl) (hg : Gl X "range" := by rfl) : PI X tg (.Call (.Name "range" p) [a, b] [] pos) (tI c W (iCall rng2M [fa, fb])) := by
  refine (pi_range2 hg h.bl.range (da_cons ha (da_cons hb da_nil (ns2 _ _)) (ns _ _)) (by rw [ns, ns2]; rfl) (ns2 _ _)).imp fun σ H R q => (src_end (R0 := RepL c) (F := rng2M) q).mono fun v H1 q1 => ?_
  obtain ⟨e, L, T, G, ρ, ds, S, r, p⟩ := q1
  match ds, r, p with
  | [.int i, .int j], .cons (.int _) (.cons (.int _) .nil), p =>
    simp only [rng2M] at p
    by_cases z : (inB i && inB j && decide ((j - i).toNat ≤ sizeLine)) = true
    · rw [if_pos z] at p
      simp only [Bool.and_eq_true, decide_eq_true_eq] at z
      have zi := inB_iff.mp z.1.1
      have zj := inB_iff.mp z.1.2
      exact ⟨i, j, rfl, ⟨zi.1, zi.2, zj.1, zj.2⟩, p _ L G H1 (LE.refl _) (Same.refl _) S wk_rng (by rw [rngL_len]; exact z.2)⟩
    · rw [if_neg z] at p; exact False.elim p
theorem di_range3 {b d : Expr} {fb fd : Ex} (h : Ctx X c W k) (ha : PE X a (tD c W fa)) (hb : PE X b (tD c W fb)) (hd : PE X d (tD c W fd)) (ns : NS a := by intro _ _; rfl) (ns2 : NS b := by intro _ _; rfl) (ns3 : NS d := by intro _ _; rfl)
    (hg : Gl X "range" := by rfl) (hpl : (backTo pos (starEach [b, d] X.env)).any (·.1) = false := by rfl) : PI X tg (.Call (.Name "range" p) [a, b, d] [] pos) (tI c W (iCall rng3M [fa, fb, fd])) := by
  refine (pi_range3 hg h.bl.range (da_cons ha (da_cons hb (da_cons hd da_nil (ns3 _ _)) (ns2 _ _)) (ns _ _)) (ns _ _) hpl).imp fun σ H R q => (src_end (R0 := RepL c) (F := rng3M) q).mono fun v H1 q1 => ?_
  obtain ⟨e, L, T, G, ρ, ds, S, r, p⟩ := q1
  match ds, r, p with
  | [.int i, .int j, .int s], .cons (.int _) (.cons (.int _) (.cons (.int _) .nil)), p =>
    simp only [rng3M] at p
    by_cases z : (decide (s = -1) && inB i && inB j && decide ((i - j).toNat ≤ sizeLine)) = true
    · rw [if_pos z] at p
      simp only [Bool.and_eq_true, decide_eq_true_eq] at z
      have zi := inB_iff.mp z.1.1.2
      have zj := inB_iff.mp z.1.2
      have e1 := z.1.1.1
      subst e1
      exact ⟨i, j, -1, (i - j).toNat, rfl, RgC.neg zi.1 zi.2 zj.1 zj.2, p _ L G H1 (LE.refl _) (Same.refl _) S wk_rngC (by unfold rngC; rw [List.length_map, List.length_range]; exact z.2)⟩
    · rw [if_neg z] at p; exact False.elim p
/-- enumerate of a list or a tuple -/
theorem pi_enumS {els : List Expr} {kx : Nat} {tp : Pos} {ta : TA} (hg : Gl X "enumerate") (hm : X.mg "enumerate" = none) (ha : PA X [a] ta) (hs : starEach [a] X.env = [(false, eval a X.env)]) :
    PI X (.Tuple els kx tp) (.Call (.Name "enumerate" p) [a] [] pos) (fun σ H R => ta σ H fun vs H1 => ∃ q, vs = [.ref q] ∧ (((∃ xs, SqL X.K H1 q xs) ∧ R (Ite X.K q) H1) ∨ ((∃ xs, SqT X.K H1 q xs) ∧ R (Itf X.K q) H1))) := by
  refine ⟨fun pn st σ H R I hh => ?_⟩
  refine Call_ (ld_blt I hg hm boot_enumerate (PyProof.Rows.callWith_type1 (thn (ha.run pos pn st σ H _ I hh) fun us s1 ⟨vs, H1, I1, r1, q, ex, alt⟩ => ?_) hs rfl))
  subst ex
  cases r1 with
  | cons r rr =>
    cases rr
    cases r
    have own : ∀ b ∈ [s1.heap.objs.size + 1, s1.heap.objs.size], FpOk X pn H1 b := fun b hb => by
      have le : s1.heap.objs.size ≤ b := by
        rcases List.mem_cons.mp hb with z | z
        · omega
        · have := List.mem_singleton.mp z; omega
      exact I1.fpOk le (I1.hok.fresh le)
    rcases alt with ⟨⟨xs, sq⟩, z⟩ | ⟨⟨xs, sq⟩, z⟩
    · obtain ⟨its, rv, il, hz⟩ := I1.list sq
      refine call_enum1 (begins_list q its.toArray) il.isList fun h' en ho hk => wpAny_pyIter_enum en ?_
      have I2 : Inv X pn σ H1 { s1 with heap := h' } := I1.kept (t' := s1.toks) hk
      exact ⟨s1.heap.objs.size + 1, [s1.heap.objs.size + 1, s1.heap.objs.size], _, _, H1, rfl, I2, turn_enum q (s1.heap.objs.size + 1) s1.heap.objs.size, ⟨⟨.none, en⟩, ⟨_, ho, rfl, rfl⟩, Nat.succ_ne_self _⟩, own, z⟩
    · obtain ⟨its, rv, il, hz⟩ := I1.tuple sq
      have il' : s1.heap.IsTuple q its.toArray := il
      have lt : q < s1.heap.objs.size := by obtain ⟨_, e, _⟩ := il'; exact Heap.lt_size e
      refine call_enum1 (begins_tuple q its.toArray) il' fun h' en ho hk => wpAny_pyIter_enum en ?_
      have I2 : Inv X pn σ H1 { s1 with heap := h' } := I1.kept (t' := s1.toks) hk
      exact ⟨s1.heap.objs.size + 1, [s1.heap.objs.size + 1, s1.heap.objs.size], _, _, H1, rfl, I2, turn_enumT q (s1.heap.objs.size + 1) s1.heap.objs.size (Nat.ne_of_lt lt) (Nat.ne_of_lt (Nat.lt_succ_of_lt lt)), ⟨⟨.none, en⟩, ⟨_, ho, rfl, rfl⟩, Nat.succ_ne_self _⟩, own, z⟩
theorem enumL_len (xs : List D) : (enumL xs).length = xs.length := by simp [enumL]
theorem di_enum {els : List Expr} {kx : Nat} {tp : Pos} (h : Ctx X c W k) (ha : PE X a (tD c W fa)) (ns : NS a := by intro _ _; rfl) (hg : Gl X "enumerate" := by rfl) : PI X (.Tuple els kx tp) (.Call (.Name "enumerate" p) [a] [] pos) (tI c W (iCall enumM [fa])) := by
  refine (pi_enumS hg h.bl.enum (da_cons ha da_nil (ns _ _)) (ns _ _)).imp fun σ H R q => (src_end (R0 := RepL c) (F := enumM) q).mono fun v H1 q1 => ?_
  obtain ⟨e, L, T, G, ρ, ds, S, r, p⟩ := q1
  rw [h.hK]
  match ds, r, p with
  | [.lst xs], .cons (@Rep.lst _ _ _ a vs _ h1 h2 h3) .nil, p =>
    exact ⟨a, rfl, .inl ⟨⟨vs, .of (S.subS.lst h1)⟩, p _ L G H1 (LE.refl _) (Same.refl _) S (wk_enumL h1 h2) (by rw [enumL_len]; exact h3)⟩⟩
  | [.tup xs], .cons (@Rep.tup _ _ _ a vs _ h1 h2 h3) .nil, p =>
    exact ⟨a, rfl, .inr ⟨⟨vs, S.subS.sqT h1⟩, p _ L G H1 (LE.refl _) (Same.refl _) S (wk_enumT h1 h2) (by rw [enumL_len]; exact h3)⟩⟩
end
end WW
set_option maxHeartbeats 1000000
namespace WW
open PySem PySem.Spec PyProof.Rows L2
abbrev Bd := D → En → Option En
def forM (b : Bd) (body : Sx) : List D → En → M Fl
  | [], ρ => M.ret (.nx ρ)
  | x :: xs, ρ => match b x ρ with
    | none => M.fail
    | some ρ1 => body ρ1 >>= fun fl => match fl with
      | .nx ρ2 => forM b body xs ρ2
      | .ct ρ2 => forM b body xs ρ2
      | .bk ρ2 => M.ret (.nx ρ2)
      | .rt d => M.ret (.rt d)
def sFor (src : Sr) (b : Bd) (body : Sx) : Sx := fun ρ => src ρ >>= fun xs => forM b body xs ρ
section
variable {X : Cx} {c : Cfg} {W : WX} {k : Nat} {tg a it : Expr} {es : List Expr} {fa : Ex} {fs : List Ex} {pos p : Pos} {src : Sr} {b : Bd} {is : List Nat} {sts : List Stmt} {body : Sx}
theorem ds_for (h : Ctx X c W k) (hp : PassesOwn (model X.prog X.w) X.A X.env X.xe) (hi : PI X tg it (tI c W src)) (hg : PG X tg (gD c is b)) (hb : PSs X sts (tS c W body)) (hs : ∀ x, foldedSetIterable it X.env x = pure x := by intro _; rfl) :
    PS X (.For tg it sts [] pos) (tS c W (sFor src b body)) := by
  refine (ps_for hp h.calm hi hg hb hs).imp fun D σ H q => ?_
  obtain ⟨e, L, T, G, ρ, S, p⟩ := q
  refine ⟨e, L, T, G, ρ, S, ?_⟩
  unfold sFor at p
  cases hr : src ρ T with
  | bad => rw [bnd_bad hr] at p; exact p
  | exn k T' => rw [bnd_exn hr] at p; exact fun L' G' H' h1 h2 S' => p L' G' H' σ ρ h1 h2 S'
  | ok xs T0 =>
    rw [bnd_ok hr] at p
    intro J L0 G0 H0 l0 g0 S0 wk hz
    have p0 : PostS c e W L0 G0 (forM b body xs ρ T0) D := PostS.up p l0 g0
    refine ⟨fun i m σ H => m = xs.length - i ∧ i ≤ xs.length ∧ ∃ L T G ρ, Sta c e L T G H σ ρ ∧ LE L0 L ∧ Same G0 G ∧ PostS c e W L G (forM b body (xs.drop i) ρ T) D,
      ⟨xs.length, by simp, Nat.zero_le _, L0, T0, G0, ρ, S0, LE.refl _, Same.refl _, by simpa using p0⟩, ?_⟩
    rintro i m σ H ⟨rfl, hi, L, T, G, ρ, S, l1, g1, p⟩
    have w := wk e L T G H σ ρ l1 g1 S i hi
    by_cases lt : i < xs.length
    · have hx : xs[i]? = some xs[i] := List.getElem?_eq_getElem lt
      obtain ⟨go, yl⟩ := w.1 _ hx
      rw [List.drop_eq_getElem_cons lt] at p
      refine .inr ⟨go, fun σ' H' => ∃ L T G ρ, Sta c e L T G H' σ' ρ ∧ LE L0 L ∧ Same G0 G ∧ PostS c e W L G (forM b body (xs.drop (i + 1)) ρ T) D, fun σ' H' q => ⟨xs.length - (i + 1), by omega, rfl, lt, q⟩, fun v H2 y => ?_⟩
      obtain ⟨G2, g2, S2, rv⟩ := yl v H2 y
      refine ⟨e, L, T, G2, ρ, xs[i], S2, rv, ?_⟩
      unfold forM at p
      cases hb1 : b xs[i] ρ with
      | none => rw [hb1] at p; exact p
      | some ρ1 =>
        rw [hb1] at p
        intro σ1 S3 _
        refine ⟨e, L, T, G2, ρ1, S3, ?_⟩
        dsimp only at p
        cases hr : body ρ1 T with
        | bad => rw [bnd_bad hr] at p; exact p
        | exn k T' => rw [bnd_exn hr] at p; exact fun L' G' H' σ' ρ' h1 h2 S' => p L' G' H' σ' ρ' h1 (g2.trans h2) S'
        | ok fl T' =>
          rw [bnd_ok hr] at p
          cases fl with
          | nx ρ2 => exact fun L' G' H' σ' h1 h2 S' => ⟨L', T', G', ρ2, S', l1.trans h1, g1.trans (g2.trans h2), PostS.up p h1 (g2.trans h2)⟩
          | ct ρ2 => exact fun L' G' H' σ' h1 h2 S' => ⟨L', T', G', ρ2, S', l1.trans h1, g1.trans (g2.trans h2), PostS.up p h1 (g2.trans h2)⟩
          | bk ρ2 => exact fun L' G' H' σ' h1 h2 S' => p L' G' H' σ' h1 (g2.trans h2) S'
          | rt d => exact fun v L' G' H' σ' ρ' h1 h2 S' r => p v L' G' H' σ' ρ' h1 (g2.trans h2) S' r
    · have e1 : i = xs.length := by omega
      refine .inl ⟨w.2 (by simp [e1]), ?_⟩
      rw [e1, List.drop_length] at p
      exact p L G H σ (LE.refl _) (Same.refl _) S
end
def wipeE (ρ : En) : List Nat → En
  | [] => ρ
  | v :: vs => (wipeE ρ vs).set v none
/-- no list of the def's own is in a slot that the block uses -/
def okW (ρ : En) (vs : List Nat) : Bool := vs.all fun i => match ρ[i]? with
  | some (some (.ol _)) => false
  | some (some (.od _ _)) => false
  | _ => true
def noX {α : Type} (x : M α) : M α := fun T => match x T with
  | .exn _ _ => .bad
  | r => r
def lcM (ρ0 : En) (b : Bd) (t : Tx) (el : Ex) : List D → M (List D)
  | [] => M.ret []
  | x :: xs => match b x ρ0 with
    | none => M.fail
    | some ρ => t ρ >>= fun z => if z = true then el ρ >>= fun y => lcM ρ0 b t el xs >>= fun ys => M.ret (y :: ys) else lcM ρ0 b t el xs
def oLc (src : Sr) (b : Bd) (t : Tx) (el : Ex) (vs : List Nat) : Ox := fun ρ => if okW ρ vs = true then src ρ >>= fun xs => noX (lcM (wipeE ρ vs) b t el xs) else M.fail
def tAll : Tx := fun _ => M.ret true
/-- a target's reading touches the slots told alone -/
def BdOk (b : Bd) (is : List Nat) : Prop := ∀ d ρ ρ', b d ρ = some ρ' → ρ'.length = ρ.length ∧ ∀ j, j ∉ is → ρ'[j]? = ρ[j]?
theorem bdName (i : Nat) : BdOk (bName i) [i] := fun d ρ ρ' h => by
  cases h
  unfold putE
  exact ⟨List.length_set, fun j hj => List.getElem?_set_ne (show i ≠ j from fun z => hj (by simp [z]))⟩
theorem setsE_out : ∀ (is : List Nat) (ds : List D) (ρ : En), (setsE is ds ρ).length = ρ.length ∧ ∀ j, j ∉ is → (setsE is ds ρ)[j]? = ρ[j]?
  | [], _, ρ => ⟨rfl, fun _ _ => rfl⟩
  | i :: is, [], ρ => ⟨rfl, fun _ _ => rfl⟩
  | i :: is, d :: ds, ρ => by
    obtain ⟨h1, h2⟩ := setsE_out is ds (putE ρ i d)
    refine ⟨h1.trans List.length_set, fun j hj => (h2 j fun z => hj (List.mem_cons_of_mem _ z)).trans ?_⟩
    exact List.getElem?_set_ne (show i ≠ j from fun z => hj (z ▸ List.mem_cons_self))
theorem bdTup (is : List Nat) : BdOk (bTup is) is := fun d ρ ρ' h => by
  cases d with
  | tup ds =>
    simp only [bTup] at h
    by_cases z : ds.length = is.length
    · rw [if_pos z] at h; cases h; exact setsE_out is ds ρ
    · rw [if_neg z] at h; cases h
  | _ => cases h
theorem wipe_get {σ : L2.St} {j : Nat} : ∀ (vs : List Nat), (wipe σ vs)[j]? = if j ∈ vs ∧ j < σ.length then some none else σ[j]?
  | [] => by simp [wipe]
  | v :: vs => by
    unfold wipe
    by_cases e : v = j
    · subst e
      by_cases lt : v < σ.length
      · rw [List.getElem?_set_self (by rw [wipe_length]; exact lt)]; simp [lt]
      · rw [List.getElem?_eq_none (by rw [List.length_set, wipe_length]; omega), List.getElem?_eq_none (by omega)]; simp [lt]
    · rw [List.getElem?_set_ne e, wipe_get vs]
      simp [Ne.symm e]
theorem wipeE_length (ρ : En) : ∀ vs : List Nat, (wipeE ρ vs).length = ρ.length
  | [] => rfl
  | v :: vs => by unfold wipeE; rw [List.length_set, wipeE_length ρ vs]
theorem wipeE_get {ρ : En} {j : Nat} : ∀ (vs : List Nat), (wipeE ρ vs)[j]? = if j ∈ vs ∧ j < ρ.length then some none else ρ[j]?
  | [] => by simp [wipeE]
  | v :: vs => by
    unfold wipeE
    by_cases e : v = j
    · subst e
      by_cases lt : v < ρ.length
      · rw [List.getElem?_set_self (by rw [wipeE_length]; exact lt)]; simp [lt]
      · rw [List.getElem?_eq_none (by rw [List.length_set, wipeE_length]; omega), List.getElem?_eq_none (by omega)]; simp [lt]
    · rw [List.getElem?_set_ne e, wipeE_get vs]
      simp [Ne.symm e]
theorem wipe_eq {σ σ' : L2.St} {vs : List Nat} (hl : σ'.length = σ.length) (h : ∀ j, j ∉ vs → σ'[j]? = σ[j]?) : wipe σ' vs = wipe σ vs := by
  apply List.ext_getElem?
  intro j
  rw [wipe_get, wipe_get, hl]
  by_cases z : j ∈ vs
  · by_cases lt : j < σ.length
    · simp [z, lt]
    · simp [z, lt, List.getElem?_eq_none (show σ.length ≤ j by omega), List.getElem?_eq_none (show σ'.length ≤ j by omega)]
  · simp [z, h j z]
section
variable {c : Cfg} {e : Gh} {W : WX} {σ σ2 : L2.St} {ρ ρ2 : En} {L LL : List (List Addr)} {G H G2 H2 : Hp} {T T2 : List Cell} {vs : List Nat}
theorem Sta.wipe (S : Sta c e L T G H σ ρ) (vs : List Nat) : Sta c e L T G H (L2.wipe σ vs) (wipeE ρ vs) := by
  have gt : ∀ {j : Nat} {sv : SV}, (wipeE ρ vs)[j]? = some (some sv) → j ∉ vs ∧ ρ[j]? = some (some sv) := fun {j sv} h => by
    rw [wipeE_get] at h
    by_cases z : j ∈ vs
    · by_cases lt : j < ρ.length
      · rw [if_pos ⟨z, lt⟩] at h; cases h
      · rw [if_neg (fun q => lt q.2), List.getElem?_eq_none (by omega)] at h; cases h
    · rw [if_neg (fun q => z q.1)] at h
      exact ⟨z, h⟩
  have st : ∀ {j : Nat}, j ∉ vs → (L2.wipe σ vs)[j]? = σ[j]? := fun {j} h => by rw [wipe_get, if_neg (fun q => h q.1)]
  refine ⟨S.sub, S.same, S.store, S.ldist, S.lfree, S.lmem0, S.l0free, S.gnew, S.l0there, S.l0h, by rw [L2.wipe_length, wipeE_length, S.len], fun j sv h => ?_, fun q hq => ?_, fun i j x y hij hi hj ox oy => ?_⟩
  · obtain ⟨z, h⟩ := gt h
    rw [st z]
    exact S.slot j sv h
  · obtain ⟨h1, h2, h3, h4, h5, h6⟩ := S.xown q hq
    refine ⟨h1, h2, h3, h4, h5, fun j sv h ow => ?_⟩
    obtain ⟨z, h⟩ := gt h
    rw [st z]
    exact h6 j sv h ow
  · obtain ⟨z1, hi⟩ := gt hi
    obtain ⟨z2, hj⟩ := gt hj
    rw [st z1, st z2]
    exact S.disj i j x y hij hi hj ox oy
theorem okW_out (ok : okW ρ vs = true) {j : Nat} {sv : SV} (h : ρ[j]? = some (some sv)) (ow : Own sv) : j ∉ vs := fun z => by
  have q := List.all_eq_true.mp ok j z
  rw [h] at q
  cases sv with
  | d x => exact ow
  | ol x => simp at q
  | od x y => simp at q
/-- behind a block: the slots as they were -/
theorem Sta.back {e2 : Gh} (S : Sta c e L T G H σ ρ) (S2 : Sta c e2 LL T2 G2 H2 σ2 ρ2) (he : e2 = e) (hL : LE L LL) (hG : Same G G2) (ok : okW ρ vs = true) (hσ : ∀ j, j ∉ vs → σ2[j]? = σ[j]?) (hρ : ∀ j, j ∉ vs → ρ2[j]? = ρ[j]?) : Sta c e LL T2 G2 H2 σ ρ := by
  subst he
  refine ⟨S2.sub, S2.same, S2.store, S2.ldist, S2.lfree, S2.lmem0, S2.l0free, S2.gnew, S2.l0there, S2.l0h, S.len, fun j sv h => ?_, fun q hq => ?_, S.disj⟩
  · cases sv with
    | d x =>
      obtain ⟨v, h1, h2⟩ := S.slot j _ h
      exact ⟨v, h1, h2.up hL hG⟩
    | ol x =>
      have z := okW_out ok h trivial
      rw [← hσ j z]
      exact S2.slot j _ (by rw [hρ j z]; exact h)
    | od x y =>
      have z := okW_out ok h trivial
      rw [← hσ j z]
      exact S2.slot j _ (by rw [hρ j z]; exact h)
  · obtain ⟨h1, h2, h3, h4, h5, h6⟩ := S2.xown q hq
    refine ⟨h1, h2, h3, h4, h5, fun j sv h ow => ?_⟩
    have z := okW_out ok h ow
    rw [← hσ j z]
    exact h6 j sv (by rw [hρ j z]; exact h) ow
/-- a thing of one's own is kept apart -/
def Gh.add (e : Gh) (q : Addr × HO) : Gh := { e with xo := q :: e.xo }
theorem Sta.addx (S : Sta c e L T G H σ ρ) {q : Addr × HO} (h1 : H q.1 = some q.2) (h2 : G q.1 = none) (h3 : q.1 ∉ L.flatten) (h4 : q.1 ∉ e.L0.flatten) (h5 : e.H0 q.1 = none) (h6 : ∀ (i : Nat) (sv : SV), ρ[i]? = some (some sv) → Own sv → σ[i]? ≠ some (some (.ref q.1))) :
    Sta c (e.add q) L T G H σ ρ := by
  refine ⟨S.sub, S.same, S.store, S.ldist, S.lfree, S.lmem0, S.l0free, S.gnew, S.l0there, S.l0h, S.len, S.slot, fun y hy => ?_, S.disj⟩
  rcases List.mem_cons.mp hy with z | z
  · subst z; exact ⟨h1, h2, h3, h4, h5, h6⟩
  · exact S.xown y z
theorem Sta.delx {q : Addr × HO} (S : Sta c (e.add q) L T G H σ ρ) : Sta c e L T G H σ ρ :=
  ⟨S.sub, S.same, S.store, S.ldist, S.lfree, S.lmem0, S.l0free, S.gnew, S.l0there, S.l0h, S.len, S.slot, fun y hy => S.xown y (List.mem_cons_of_mem _ hy), S.disj⟩
theorem Sta.hadx {q : Addr × HO} (S : Sta c (e.add q) L T G H σ ρ) : H q.1 = some q.2 ∧ G q.1 = none ∧ q.1 ∉ L.flatten ∧ q.1 ∉ e.L0.flatten ∧ e.H0 q.1 = none ∧ ∀ (i : Nat) (sv : SV), ρ[i]? = some (some sv) → Own sv → σ[i]? ≠ some (some (.ref q.1)) :=
  S.xown q List.mem_cons_self
/-- what is kept apart changes -/
theorem Sta.setx {p : Addr} {o o' : HO} (S : Sta c (e.add (p, o)) L T G H σ ρ) (hx : ∀ q ∈ e.xo, q.1 ≠ p) : Sta c (e.add (p, o')) L T G (upd H p o') σ ρ := by
  obtain ⟨k1, k2, k3, k4, k5, k6⟩ := S.hadx
  have ne : ∀ {a : Addr} {u : HO}, a ≠ p → H a = some u → upd H p o' a = some u := fun n h => by rw [upd_ne n]; exact h
  refine ⟨fun a u h => ?_, fun a u h hl => ?_, S.store.keeps fun a ha u h => ne (fun z => k3 (z ▸ ha)) h, S.ldist, S.lfree, S.lmem0, S.l0free, S.gnew, fun a ha => ?_, S.l0h, S.len, fun i sv h => ?_, fun q hq => ?_, S.disj⟩
  · have n : a ≠ p := fun z => by rw [z, k2] at h; cases h
    rcases S.sub a u h with z | ⟨z, ob, y⟩
    · exact .inl (ne n z)
    · exact .inr ⟨z, ob, ne n y⟩
  · have n : a ≠ p := fun z => by rw [z] at h; exact absurd ((show e.H0 p = some u from h).symm.trans k5) (by simp)
    obtain ⟨z1, z2⟩ := S.same a u h hl
    refine ⟨fun m => ne n (z1 m), fun m => ?_⟩
    obtain ⟨ob, z⟩ := z2 m
    exact ⟨ob, ne n z⟩
  · rw [upd_ne (show a ≠ p from fun z => k4 (z ▸ ha))]
    exact S.l0there a ha
  · obtain ⟨v, h1, h2⟩ := S.slot i sv h
    refine ⟨v, h1, ?_⟩
    cases sv with
    | d x => exact h2
    | ol ds =>
      obtain ⟨q, vs, rfl, h3, h4⟩ := h2
      exact ⟨q, vs, rfl, ne (fun z => k6 i _ h trivial (by rw [h1, z])) h3, h4⟩
    | od ks vs =>
      obtain ⟨q, u, rfl, h3, h4⟩ := h2
      exact ⟨q, u, rfl, ne (fun z => k6 i _ h trivial (by rw [h1, z])) h3, h4⟩
  · rcases List.mem_cons.mp hq with z | z
    · subst z; exact ⟨upd_same, k2, k3, k4, k5, k6⟩
    · obtain ⟨h1, h2⟩ := S.xown q (List.mem_cons_of_mem _ z)
      exact ⟨ne (hx q z) h1, h2⟩
end
end WW
set_option maxHeartbeats 1000000
namespace WW
open PySem PySem.Spec PyProof.Rows L2
abbrev W0 : WX := fun _ _ _ _ => False
theorem bind_ok {α β : Type} {x : M α} {f : α → M β} {T T' : List Cell} {y : β} (h : (x >>= f) T = .ok y T') : ∃ a T1, x T = .ok a T1 ∧ f a T1 = .ok y T' := by
  cases q : x T with
  | bad => rw [bnd_bad q] at h; cases h
  | exn k t => rw [bnd_exn q] at h; cases h
  | ok a t => rw [bnd_ok q] at h; exact ⟨a, t, rfl, h⟩
theorem lcM_ok {ρ0 : En} {b : Bd} {t : Tx} {el : Ex} {x : D} {xs ys : List D} {T T' : List Cell} (h : lcM ρ0 b t el (x :: xs) T = .ok ys T') : ∃ ρ1 z Tz, b x ρ0 = some ρ1 ∧ t ρ1 T = .ok z Tz ∧
    ((z = true ∧ ∃ y Ty r, el ρ1 Tz = .ok y Ty ∧ lcM ρ0 b t el xs Ty = .ok r T' ∧ ys = y :: r) ∨ (z = false ∧ lcM ρ0 b t el xs Tz = .ok ys T')) := by
  unfold lcM at h
  cases hb : b x ρ0 with
  | none => rw [hb] at h; cases h
  | some ρ1 =>
    rw [hb] at h
    obtain ⟨z, Tz, h1, h2⟩ := bind_ok h
    refine ⟨ρ1, z, Tz, rfl, h1, ?_⟩
    cases z with
    | false => exact .inr ⟨rfl, h2⟩
    | true =>
      obtain ⟨y, Ty, h3, h4⟩ := bind_ok h2
      obtain ⟨r, Tr, h5, h6⟩ := bind_ok h4
      cases h6
      exact .inl ⟨rfl, y, Ty, r, h3, h5, rfl⟩
theorem noX_ok {α : Type} {x : M α} {T T' : List Cell} {y : α} (h : noX x T = .ok y T') : x T = .ok y T' := by
  unfold noX at h
  cases q : x T with
  | bad => rw [q] at h; cases h
  | exn k t => rw [q] at h; cases h
  | ok a t => rw [q] at h; exact h
section
variable {X : Cx} {c : Cfg} {W : WX} {k : Nat} {src : Sr} {b : Bd} {t : Tx} {el : Ex} {is vs : List Nat} {σ : L2.St} {H : Hp} {Q : VK}
theorem lc_end (hb : BdOk b is) (hv : ∀ i ∈ is, i ∈ vs) (q : tO c W (oLc src b t el vs) σ H Q) : tLc (tI c W src) (gD c is b) (tT c W0 t) (tD c W0 el) vs σ H Q := by
  obtain ⟨e, L, T, G, ρ, S, p⟩ := q
  refine ⟨e, L, T, G, ρ, S, ?_⟩
  unfold oLc at p
  by_cases ok : okW ρ vs = true
  · rw [if_pos ok] at p
    cases hr : src ρ T with
    | bad => rw [bnd_bad hr] at p; exact p
    | exn k T' => rw [bnd_exn hr] at p; exact p
    | ok xs T0 =>
      rw [bnd_ok hr] at p
      intro J L0 G0 H0 l0 g0 S0 wk hz
      intro D hD
      -- the whole run succeeds
      cases hr2 : noX (lcM (wipeE ρ vs) b t el xs) T0 with
      | bad => rw [hr2] at p; exact p.elim
      | exn k T' => unfold noX at hr2; cases q2 : lcM (wipeE ρ vs) b t el xs T0 <;> rw [q2] at hr2 <;> cases hr2
      | ok ys T2 =>
        rw [hr2] at p
        have all := noX_ok hr2
        have nx := S0.notx hD
        have fr0 : ∀ o : HO, Sta c (e.add (D, o)) L0 T0 G0 (upd H0 D o) σ ρ := fun o => (S0.grow hD).addx upd_same (S0.gnone hD) (S0.notcell hD) (S0.notcell0 hD) (S0.h0none hD (S0.notcell hD) (S0.notcell0 hD)) (S0.notslot hD)
        refine ⟨fun i m H => m = xs.length - i ∧ i ≤ xs.length ∧ ∃ L T G vacc acc r, Sta c (e.add (D, .lst vacc)) L T G H σ ρ ∧ LE L0 L ∧ Same G0 G ∧ RepL c L G vacc acc ∧ acc.length ≤ i ∧ lcM (wipeE ρ vs) b t el (xs.drop i) T = .ok r T2 ∧ ys = acc ++ r,
          ⟨xs.length, by simp, Nat.zero_le _, L0, T0, G0, [], [], ys, fr0 _, LE.refl _, Same.refl _, .nil, Nat.le_refl _, by simpa using all, rfl⟩, ?_⟩
        rintro i m H ⟨rfl, hi, L, T, G, vacc, acc, r, S, l1, g1, ra, la, hl, hys⟩
        have w := wk _ L T G H σ ρ l1 g1 S i hi
        by_cases lt : i < xs.length
        · have hx : xs[i]? = some xs[i] := List.getElem?_eq_getElem lt
          obtain ⟨go, yl⟩ := w.1 _ hx
          rw [List.drop_eq_getElem_cons lt] at hl
          obtain ⟨ρ1, z, Tz, hb1, ht, alt⟩ := lcM_ok hl
          obtain ⟨bl, bo⟩ := hb _ _ _ hb1
          have bo' : ∀ j, j ∉ vs → ρ1[j]? = ρ[j]? := fun j hj => by rw [bo j fun z => hj (hv j z), wipeE_get, if_neg (fun q => hj q.1)]
          refine .inr ⟨go, fun H' => i + 1 ≤ xs.length ∧ ∃ L T G vacc acc r, Sta c (e.add (D, .lst vacc)) L T G H' σ ρ ∧ LE L0 L ∧ Same G0 G ∧ RepL c L G vacc acc ∧ acc.length ≤ i + 1 ∧ lcM (wipeE ρ vs) b t el (xs.drop (i + 1)) T = .ok r T2 ∧ ys = acc ++ r,
            fun H' q => ⟨xs.length - (i + 1), by omega, rfl, q⟩, fun v H2 y => ?_⟩
          obtain ⟨G2, g2, S2, rv⟩ := yl v H2 y
          refine ⟨_, L, T, G2, wipeE ρ vs, xs[i], S2.wipe vs, rv, ?_⟩
          rw [hb1]
          intro σ1 S3 so
          have so' : ∀ j, j ∉ vs → σ1[j]? = σ[j]? := fun j hj => by rw [so j fun z => hj (hv j z), wipe_get, if_neg (fun q => hj q.1)]
          have sl : σ1.length = σ.length := by rw [S3.len, bl, wipeE_length, S2.len]
          refine ⟨wipe_eq sl so', _, L, T, G2, ρ1, S3, ?_⟩
          rw [ht]
          intro z' L3 G3 H3 l3 g3 S4 ez
          subst ez
          rcases alt with ⟨rfl, y, Ty, r', he, hr', rfl⟩ | ⟨rfl, hr'⟩
          · rw [if_pos rfl]
            refine ⟨_, L3, _, G3, ρ1, S4, ?_⟩
            rw [he]
            intro u L4 G4 H4 l4 g4 S5 ru
            have S6 := S2.back S5 rfl (l3.trans l4) (g3.trans g4) ok so' bo'
            have hD4 := S6.hadx.1
            refine ⟨vacc, hD4, ?_, by omega, L4, Ty, G4, vacc ++ [u], acc ++ [y], r', S6.setx nx, l1.trans (l3.trans l4), g1.trans (g2.trans (g3.trans g4)), (ra.up (l3.trans l4) (g2.trans (g3.trans g4))).snoc ru, by simp; exact la, hr', by rw [hys, List.append_assoc]; rfl⟩
            rw [ra.length]
            omega
          · rw [if_neg (by simp)]
            exact ⟨by omega, L3, _, G3, vacc, acc, r, S2.back S4 rfl l3 g3 ok so' bo', l1.trans l3, g1.trans (g2.trans g3), ra.up l3 (g2.trans g3), by omega, hr', hys⟩
        · have e1 : i = xs.length := by omega
          refine .inl ⟨w.2 (by simp [e1]), ?_⟩
          rw [e1, List.drop_length] at hl
          cases hl
          obtain ⟨k1, k2, k3, k4, k5, k6⟩ := S.hadx
          rw [List.append_nil] at hys
          subst hys
          exact p D L G H (l0.trans l1) (g0.trans g1) S.delx ⟨⟨vacc, k1, ra, by omega⟩, k2, k3, k4, k5, nx, k6⟩
  · rw [if_neg ok] at p
    exact p.elim
/-- the block's context -/
theorem Ctx.blk (h : Ctx X c W k) (s : Shared) (H : Hp) (sc : Scope) (ce : Env) (fp : List Addr) : Ctx (X.blk s H sc ce fp) c W0 k := ⟨h.hP, h.hw, h.hK, h.calm, h.nd, h.room, takes0, h.bl⟩
theorem _root_.L2.PTs.imp {es : List Expr} {t t' : TT} (h : PTs X es t) (i : ∀ σ H Q, t' σ H Q → t σ H Q) : PTs X es t' := ⟨fun pn st σ H Q I q => h.run pn st σ H Q I (i σ H Q q)⟩
theorem dts_nil : PTs X [] (tT c W tAll) := pts_nil.imp fun σ H Q ⟨e, L, T, G, ρ, S, p⟩ => p true L G H (LE.refl _) (Same.refl _) S rfl
theorem dts_one {a : Expr} (h : PT X a (tT c W t)) : PTs X [a] (tT c W t) := pts_one h
variable {elt tg it : Expr} {ifs : List Expr} {scope : Scope} {pos spos : Pos}
/-- [elt for tg in it if ..] -/
theorem do_lc (own : List (Str × Nat)) (h : Ctx X c W k) (hi : PI X tg it (tI c W src)) (ok : BlkOk X.N X.env.scope scope own) (hb : BdOk b is) (hv : ∀ i ∈ is, i ∈ own.map (·.2))
    (hin : ∀ (s : Shared) (H : Hp) (C : Addr) (cl : List (Str × Addr)) (fp : List Addr), Ctx (X.blk s H scope (compEnvC scope cl C X.env) fp) c W0 k →
      PG (X.blk s H scope (compEnvC scope cl C X.env) fp) tg (gD c is b) ∧ PTs (X.blk s H scope (compEnvC scope cl C X.env) fp) ifs (tT c W0 t) ∧ PE (X.blk s H scope (compEnvC scope cl C X.env) fp) elt (tD c W0 el))
    (hs : ∀ x, foldedSetIterable it X.env x = pure x := by intro _; rfl) : PE X (.ListComp elt [⟨tg, it, ifs, 0⟩] scope pos) (tO c W (oLc src b t el (own.map (·.2)))) :=
  (pe_lc h.calm h.nd hi ok (fun s H C cl fp => (hin s H C cl fp (h.blk ..)).1) (fun s H C cl fp => (hin s H C cl fp (h.blk ..)).2.1) (fun s H C cl fp => (hin s H C cl fp (h.blk ..)).2.2) hs).imp fun σ H Q q => lc_end hb hv q
/-- name = [..] -/
theorem ds_setLc {y : Str} {py : Pos} (i : Nat) (own : List (Str × Nat)) (h : Ctx X c W k) (hi : PI X tg it (tI c W src)) (ok : BlkOk X.N X.env.scope scope own) (hb : BdOk b is) (hv : ∀ i ∈ is, i ∈ own.map (·.2))
    (hin : ∀ (s : Shared) (H : Hp) (C : Addr) (cl : List (Str × Addr)) (fp : List Addr), Ctx (X.blk s H scope (compEnvC scope cl C X.env) fp) c W0 k →
      PG (X.blk s H scope (compEnvC scope cl C X.env) fp) tg (gD c is b) ∧ PTs (X.blk s H scope (compEnvC scope cl C X.env) fp) ifs (tT c W0 t) ∧ PE (X.blk s H scope (compEnvC scope cl C X.env) fp) elt (tD c W0 el))
    (hy : X.N[i]? = some y := by rfl) (hyl : X.env.scope.names.lookup y = some .local := by rfl) (hsw : swapsWith (.ListComp elt [⟨tg, it, ifs, 0⟩] scope pos) (some (.Name y py)) spos.line X.env = pure true := by rfl)
    (hs : ∀ x, foldedSetIterable it X.env x = pure x := by intro _; rfl) : PS X (.Assign [.Name y py] (.ListComp elt [⟨tg, it, ifs, 0⟩] scope pos) spos) (tS c W (sSetO i (oLc src b t el (own.map (·.2))))) := by
  refine (ps_setLc h.calm h.nd hy hyl hsw hi ok (fun s H C cl fp => (hin s H C cl fp (h.blk ..)).1) (fun s H C cl fp => (hin s H C cl fp (h.blk ..)).2.1) (fun s H C cl fp => (hin s H C cl fp (h.blk ..)).2.2) hs).imp fun D σ H q => ?_
  refine lc_end hb hv ?_
  obtain ⟨e, L, T, G, ρ, S, p⟩ := q
  refine ⟨e, L, T, G, ρ, S, ?_⟩
  unfold sSetO at p
  cases hr : oLc src b t el (own.map (·.2)) ρ T with
  | bad => rw [bnd_bad hr] at p; exact p
  | exn k T' => rw [bnd_exn hr] at p; exact fun L' G' H' h1 h2 S' => p L' G' H' σ ρ h1 h2 S'
  | ok ds T' =>
    rw [bnd_ok hr] at p
    exact fun q L' G' H' h1 h2 S' fr => p L' G' H' _ h1 h2 (S'.putO fr)
end
end WW
set_option maxHeartbeats 1000000
namespace WW
open PySem PySem.Spec PyProof.Rows L2
def startE (n : Nat) (ds : List D) : En := ds.map (fun d => some (.d d)) ++ List.replicate (n - ds.length) none
def endM : Fl → M D
  | .nx _ => M.ret .non
  | .rt d => M.ret d
  | _ => M.fail
/-- the mirror of a def with n names -/
def runB (n : Nat) (f : Sx) : List D → M D := fun ds => f (startE n ds) >>= endM
section
variable {c : Cfg} {L : List (List Addr)} {G H : Hp} {T : List Cell} {ds : List D} {vs : List V} {N : List Str}
theorem start_get {i : Nat} {sv : SV} {n : Nat} (h : (startE n ds)[i]? = some (some sv)) : ∃ d, ds[i]? = some d ∧ sv = .d d := by
  unfold startE at h
  by_cases lt : i < ds.length
  · rw [List.getElem?_append_left (by simpa using lt), List.getElem?_map] at h
    cases q : ds[i]? with
    | none => rw [q] at h; cases h
    | some d => rw [q] at h; cases h; exact ⟨d, rfl, rfl⟩
  · rw [List.getElem?_append_right (by simpa using lt), List.getElem?_replicate] at h
    split at h <;> cases h
theorem sta_start (sub : Sub G H) (st : StoreRep c H L T) (nd : L.flatten.Nodup) (lf : ∀ a ∈ L.flatten, G a = none) (r : RepL c L G vs ds) (n : Nat) (hN : N.length = n) : Sta c ⟨L, H, G, [], []⟩ L T G H (L2.start N vs) (startE n ds) := by
  subst hN
  refine ⟨sub, fun a o ha hl => ⟨fun _ => ha, fun m => by cases m⟩, st, nd, lf, fun a ha => .inl ha, lf, fun a ha => .inl ha, st.there, st.there, ?_, fun i sv h => ?_, fun q hq => absurd hq (by simp), fun i j x y _ hi _ ox _ => ?_⟩
  · unfold L2.start startE
    rw [List.length_append, List.length_append, List.length_map, List.length_map, List.length_replicate, List.length_replicate, r.length]
  · obtain ⟨d, hd, rfl⟩ := start_get h
    obtain ⟨v, hv, rv⟩ := r.get hd
    refine ⟨v, ?_, rv⟩
    unfold L2.start
    have lt : i < vs.length := (List.getElem?_eq_some_iff.mp hv).1
    rw [List.getElem?_append_left (by simpa using lt), List.getElem?_map, hv]
    rfl
  · obtain ⟨d, _, rfl⟩ := start_get hi
    exact ox.elim
theorem after_of {L' : List (List Addr)} {T' : List Cell} {G' H' : Hp} {σ : L2.St} {ρ : En} (S : Sta c ⟨L, H, G, [], []⟩ L' T' G' H' σ ρ) (hL : LE L L') (hG : Same G G') : After c L G H L' T' G' H' :=
  ⟨hL, hG, S.sub, S.store, S.ldist, S.lfree, fun a o h hl => (S.same a o h hl).1 (by simp), S.lmem0, S.l0there, S.gnew, S.l0free⟩
end
/-- a class of one's own exceptions -/
structure XC (c : Cfg) (mg : Str → Option Value) (x : Str) (k : Nat) : Prop where
  g : mg x = some (.ref (c.CA k))
  ex : PySem.W.excIn c.K (c.CA k) He.veBase "ValueError.__new__" = true
  keep : PySem.W.keepIn c.K (.ref (c.CA k)) = true
  sub : PySem.W.subIn c.K (.ref (c.CA k)) (.type "BaseException") = some true
  ty : PySem.W.typeIn c.K (.ref (c.CA k)) = some (.type "type")
abbrev CxW (c : Cfg) (mg : Str → Option Value) (base : Heap) (N : List Str) (x : Str) (sc : Scope) (f : Addr) (cdv : Value) (A : Around) (outer : List Env) (s : Shared) (H : Hp) (E : XK) : Cx := cxOf (L2.CX c.P c.w) c.P c.w c.K mg base N x sc f cdv A outer s H E
abbrev WX0 (E : XK) : WX := fun cls d _ H => E cls d H
section
variable {c : Cfg} {mg : Str → Option Value} {base : Heap} {x : Str} {ps N : List Str} {pr : Arguments} {body : List Stmt} {sc : Scope} {k : Nat} {fb : Sx}
/-- THE RULE of a def: its body does what the mirror says -/
theorem Fn.of {f : Addr} {fd : FuncData} {dvs : List V} {kws : List (Str × V)} (n : Nat) (F : FunD c.K x x pr body sc dvs kws f fd) (S : FnScope N ps sc) (hm : mg x = some (.ref f)) (hB : Binds c.K fd ps []) (bl : BL mg) (hN : N.length = n)
    (hb : ∀ (cdv : Value) (A : Around) (outer : List Env) (s : Shared) (H : Hp) (E : XK), Ctx (CxW c mg base N x sc f cdv A outer s H E) c (WX0 E) k → PassesOwn (model c.P c.w) (CxW c mg base N x sc f cdv A outer s H E).A (CxW c mg base N x sc f cdv A outer s H E).env (CxW c mg base N x sc f cdv A outer s H E).xe →
      PSs (CxW c mg base N x sc f cdv A outer s H E) body (tS c (WX0 E) fb)) : Fn c mg base x ps (k + 1) (runB n fb) := by
  refine ⟨f, fd, hm, F.kp, hB, F.ok S (fun vs H Q E h => h.1) fun cdv A outer s H vs Q E hr h => ⟨tS c (WX0 E) fb, hb cdv A outer s H E ⟨rfl, rfl, rfl, rfl, S.nd, hr, takes_of rfl rfl rfl rfl, bl⟩ (passes_of rfl), ?_⟩⟩
  obtain ⟨hl, L, T, G, ds, sub, st, nd, lf, r, p⟩ := h
  refine ⟨⟨L, H, G, [], []⟩, L, T, G, startE n ds, sta_start sub st nd lf r n hN, ?_⟩
  unfold runB at p
  cases hr : fb (startE n ds) T with
  | bad => rw [bnd_bad hr] at p; exact p
  | exn j T' =>
    rw [bnd_exn hr] at p
    exact fun L' G' H' σ' ρ' h1 h2 S' => p L' G' H' (after_of S' h1 h2)
  | ok fl T' =>
    rw [bnd_ok hr] at p
    cases fl with
    | nx ρ' => exact fun L' G' H' σ' h1 h2 S' => p .non L' G' H' (after_of S' h1 h2) .non
    | rt d => exact fun v L' G' H' σ' ρ' h1 h2 S' rv => p v L' G' H' (after_of S' h1 h2) rv
    | bk ρ' => exact False.elim p
    | ct ρ' => exact False.elim p
theorem Fn.mono {j : Nat} {F : List D → M D} (h : Fn c mg base x ps k F) (e : k ≤ j) : Fn c mg base x ps j F := by
  obtain ⟨f, fd, h1, h2, h3, h4⟩ := h.ex
  exact ⟨f, fd, h1, h2, h3, h4.mono e⟩
end
section
variable {X : Cx} {c : Cfg} {W : WX} {k j : Nat} {pos p p2 pos' : Pos} {x m : Str}
theorem ds_raise (n : Nat) (h : Ctx X c W k) (C : XC c X.mg x n) (hg : Gl X x := by rfl) (hdb : (x == ("__debug__" : Str)) = false := by decide) : PS X (.Raise (some (.Call (.Name x p) [.Constant (.str m) j p2] [] pos)) none pos') (tS c W (sRaise n)) := by
  refine (ps_raise h.calm h.tk (pmk_own PySem.F.excBase_ValueError (h.hK ▸ C.ex) C.g (h.hK ▸ C.keep) (raises_own (h.hK ▸ C.sub) (h.hK ▸ C.ty)) hg hdb)).imp fun D σ H q => ?_
  obtain ⟨e, L, T, G, ρ, S, p⟩ := q
  exact p L G H σ ρ (LE.refl _) (Same.refl _) S
theorem de_gint {i : Int} (hm : ∃ t, X.mg x = some (.int i t)) (hg : Gl X x := by rfl) (hd : (x == ("__debug__" : Str)) = false := by decide) : PE X (.Name x pos) (tD c W (dC (.int i))) := by
  obtain ⟨t, hm⟩ := hm
  exact (pe_glob (v := .int i) hg hm ⟨t, rfl⟩ hd).imp fun σ H Q ⟨e, L, T, G, ρ, S, p⟩ => p _ L G H (LE.refl _) (Same.refl _) S (.int i)
/-- a tuple of the module: its items are plain -/
def plainV : D → Option V
  | .non => some .non
  | .bl b => some (.bl b)
  | .int i => some (.int i)
  | .str s => if PyData.strOk s then some (.str s) else none
  | _ => none
def plainVs : List D → Option (List V)
  | [] => some []
  | d :: ds => match plainV d, plainVs ds with
    | some v, some vs => some (v :: vs)
    | _, _ => none
theorem plain_rep {L : List (List Addr)} {G : Hp} : ∀ {ds : List D} {vs : List V}, plainVs ds = some vs → RepL c L G vs ds
  | [], vs, h => by cases h; exact .nil
  | d :: ds, vs, h => by
    unfold plainVs at h
    cases h1 : plainV d with
    | none => rw [h1] at h; cases h
    | some v =>
      cases h2 : plainVs ds with
      | none => rw [h1, h2] at h; cases h
      | some r =>
        rw [h1, h2] at h
        cases h
        refine .cons ?_ (plain_rep h2)
        cases d with
        | str s =>
          simp only [plainV] at h1
          by_cases z : PyData.strOk s = true
          · rw [if_pos z] at h1; cases h1; exact .str s z
          · rw [if_neg z] at h1; cases h1
        | non => cases h1; exact .non
        | bl b => cases h1; exact .bl b
        | int b => cases h1; exact .int b
        | _ => cases h1
/-- what stands in K as a tuple -/
structure GT (c : Cfg) (a : Addr) (ds : List D) : Prop where
  tup : ∃ vs, plainVs ds = some vs ∧ ∀ H : Hp, SqT c.K H a vs
  len : ds.length ≤ sizeLine
theorem GT.rep {a : Addr} {ds : List D} (h : GT c a ds) (L : List (List Addr)) (G : Hp) : Rep c L G (.ref a) (.tup ds) := by
  obtain ⟨vs, h1, h2⟩ := h.tup
  exact .tup (h2 G) (plain_rep h1) h.len
theorem de_gtup {a : Addr} {ds : List D} (hm : X.mg x = some (.ref a)) (t : GT c a ds) (hg : Gl X x := by rfl) (hd : (x == ("__debug__" : Str)) = false := by decide) : PE X (.Name x pos) (tD c W (dC (.tup ds))) :=
  (pe_glob (v := .ref a) hg hm rfl hd).imp fun σ H Q ⟨e, L, T, G, ρ, S, p⟩ => p _ L G H (LE.refl _) (Same.refl _) S (t.rep L G)
end
/-- the keyword-only default of the def f, if it is an object -/
def kwAt (f y : Str) (K : PySem.W.Frag) : Addr := match K.lookup (He.fAd K (f, none)) with
  | some ⟨_, _, .func fd, _⟩ => (match fd.kwdefaults with
    | .ref d => (match PySem.W.nsIn K d y with
      | some (some (.ref a)) => a
      | _ => 0)
    | _ => 0)
  | _ => 0
/-- a tuple by a way of one's own -/
def tupAt (K : PySem.W.Frag) (a : Addr) (vs : List V) : Bool := match K.lookup a with
  | some ⟨.type t, _, .seq its _, _⟩ => decide (t = "tuple") && (decide (its.size ≤ sizeLine) && He.relAll vs its.toList)
  | _ => false
theorem tupAt_ok {K : PySem.W.Frag} {a : Addr} {vs : List V} (h : tupAt K a vs = true) (H : Hp) : SqT K H a vs := by
  unfold tupAt at h
  cases q : K.lookup a with
  | none => rw [q] at h; cases h
  | some o =>
    obtain ⟨oc, od, dt, osl⟩ := o
    rw [q] at h
    cases oc with
    | type t =>
      cases dt with
      | seq its n =>
        have h' : (decide (t = "tuple") && (decide (its.size ≤ sizeLine) && He.relAll vs its.toList)) = true := h
        simp only [Bool.and_eq_true, decide_eq_true_eq] at h'
        obtain ⟨rfl, h3, h4⟩ := h'
        exact .inr ⟨_, its, n, q, rfl, rfl, h3, He.relAll_ok h4⟩
      | _ => cases h
    | _ => cases dt <;> cases h
abbrev Tp := (PySem.W.Frag → Addr) × List V
abbrev AlY : Type := Bool × He.AlD
def obsY (fa : List He.Fa) (ts : List Tp) (fn : List He.DefD) (K : PySem.W.Frag) : AlY := (ts.all fun q => tupAt K (q.1 K) q.2, He.obsD fa fn K)
def valY (fn : List He.DefD) : AlY := (true, He.valD fn)
def obsYG (n : Nat) (fa : List He.Fa) (ts : List Tp) (fn : List He.DefD) (g : Addr → Option Obj) : AlY := obsY fa ts fn (He.frG g (He.asD g n))
def SaysY (fa : List He.Fa) (ts : List Tp) (fn : List He.DefD) (K : PySem.W.Frag) : Prop := obsY fa ts fn K = valY fn
def hookY (n : Nat) (fa : List He.Fa) (ts : List Tp) (fn : List He.DefD) : PySem.W.Hook where
  α := AlY
  obs := fun s => obsYG n fa ts fn s.heap.get?
  val := fun _ => valY fn
  says := fun _ h => ∃ K : PySem.W.Frag, K.In h ∧ SaysY fa ts fn K
  of := fun _ _ e => ⟨_, He.frG_in, e⟩
  keeps := fun _ _ _ ⟨K, k1, q⟩ kp => ⟨K, PySem.W.Frag.In.keeps k1 kp, q⟩
theorem obsYG_eq {n : Nat} {fa : List He.Fa} {ts : List Tp} {fn : List He.DefD} {g : Addr → Option Obj} {s : Shared} (h : ∀ a, g a = s.heap.get? a) : obsYG n fa ts fn g = (hookY n fa ts fn).obs s := by
  have e : g = s.heap.get? := funext h
  rw [e] <;> rfl
section
variable {fa : List He.Fa} {ts : List Tp} {fn : List He.DefD} {K : PySem.W.Frag}
theorem SaysY.d (h : SaysY fa ts fn K) : He.SaysD fa fn K := congrArg (fun z : AlY => z.2) h
theorem SaysY.t (h : SaysY fa ts fn K) (i : Nat) {q : Tp} (hi : ts[i]? = some q := by rfl) : tupAt K (q.1 K) q.2 = true := by
  have c1 : (ts.all fun q => tupAt K (q.1 K) q.2) = true := congrArg (fun z : AlY => z.1) h
  exact List.all_eq_true.mp c1 q (List.mem_of_getElem? hi)
end
end WW
set_option maxHeartbeats 1000000
namespace WW
open PySem PySem.Spec PyProof.Rows L2
/-- what a draw of n gives from the numbers ns behind k draws; the numbers behind it -/
def drawStep (ns : List Int) (k n : Int) : Option (Int × List Int) :=
  let i := ((k + 1) % (ns.length : Int)).toNat
  match ns[i]? with
  | none => none
  | some z =>
    if 1000000000000000000 ≤ z then some (z % n, ns.set i (z / n))
    else
      let m := ((z + 104729 * (k + 1)) % 4294967291) ^ 5 % 4294967279
      some ((m / 64 * 69621 + m) % 4294967231 / 8 % n, ns)
def drawM : List D → M D := fun ds T => match ds with
  | [.cell i, .int n] => (match T[i]? with
    | some (.town ns k) => if 0 < n ∧ n < 1073741824 then (match drawStep ns k n with
      | some (r, ns') => .ok (.int r) (T.set i (.town ns' (k + 1)))
      | none => .bad) else .bad
    | _ => .bad)
  | _ => .bad
theorem drawM_ok {ds : List D} {T T' : List Cell} {d : D} (h : drawM ds T = .ok d T') : ∃ i n ns k r ns', ds = [.cell i, .int n] ∧ T[i]? = some (.town ns k) ∧ (0 < n ∧ n < 1073741824) ∧ drawStep ns k n = some (r, ns') ∧ d = .int r ∧ T' = T.set i (.town ns' (k + 1)) := by
  unfold drawM at h
  split at h
  · rename_i i n
    rcases hT : T[i]? with _ | ⟨ns, k⟩
    · rw [hT] at h; cases h
    · rw [hT] at h
      dsimp only at h
      by_cases z : 0 < n ∧ n < 1073741824
      · rw [if_pos z] at h
        rcases hd : drawStep ns k n with _ | ⟨r, ns'⟩
        · rw [hd] at h; cases h
        · rw [hd] at h
          cases h
          exact ⟨i, n, ns, k, r, ns', rfl, hT, z, hd, rfl, rfl⟩
      · rw [if_neg z] at h; cases h
  · cases h
theorem drawM_noexn (ds : List D) (T : List Cell) (j : Nat) (T' : List Cell) : drawM ds T ≠ .exn j T' := fun h => by
  unfold drawM at h
  split at h
  · rename_i i n
    rcases hT : T[i]? with _ | ⟨ns, k⟩
    · rw [hT] at h; cases h
    · rw [hT] at h
      dsimp only at h
      by_cases z : 0 < n ∧ n < 1073741824
      · rw [if_pos z] at h
        rcases hd : drawStep ns k n with _ | ⟨r, ns'⟩
        · rw [hd] at h; cases h
        · rw [hd] at h; cases h
      · rw [if_neg z] at h; cases h
  · cases h
theorem StoreRep.put {c : Cfg} {H H' : Hp} {r : List Addr} {x : Cell} : ∀ {L : List (List Addr)} {T : List Cell} {i : Nat}, StoreRep c H L T → i < T.length → L.flatten.Nodup → L[i]? = some r → (∀ b, b ∉ r → ∀ o, H b = some o → H' b = some o) → CellRep H' r x → StoreRep c H' L (T.set i x)
  | _, _, i, .nil _, lt, _, e, _, _ => by simp at lt
  | _, _, 0, .cons h t, _, nd, e, k, cr => by
    simp at e; subst e
    rw [List.flatten_cons, List.nodup_append] at nd
    exact .cons cr (t.keeps fun a ha o q => k a (fun z => nd.2.2 a z a ha rfl) o q)
  | _, _, i + 1, .cons h t, lt, nd, e, k, cr => by
    rw [List.flatten_cons, List.nodup_append] at nd
    have e' := e
    rw [List.getElem?_cons_succ] at e
    refine .cons (h.keeps fun a ha o q => k a (fun z => nd.2.2 a ha a (List.mem_flatten.mpr ⟨r, List.mem_of_getElem? e, z⟩) rfl) o q) ?_
    exact StoreRep.put t (by simpa using lt) nd.2.1 e k cr
theorem StoreRep.at_ {c : Cfg} {H : Hp} : ∀ {L : List (List Addr)} {T : List Cell} {i : Nat} {x : Cell}, StoreRep c H L T → T[i]? = some x → ∃ r, L[i]? = some r ∧ CellRep H r x
  | _, _, i, _, .nil _, e => by simp at e
  | _, _, 0, _, .cons h _, e => by simp at e; subst e; exact ⟨_, rfl, h⟩
  | _, _, i + 1, _, .cons _ t, e => by
    obtain ⟨r, h1, h2⟩ := StoreRep.at_ (i := i) t (by simpa using e)
    exact ⟨r, by simpa using h1, h2⟩
section
variable {c : Cfg} {L : List (List Addr)} {G H : Hp} {T : List Cell}
/-- behind a draw -/
theorem town_after {i : Nat} {ns ns' : List Int} {k k' : Int} {a p : Addr} (sub : Sub G H) (st : StoreRep c H L T) (hi : i < T.length) (nd : L.flatten.Nodup) (lf : ∀ a ∈ L.flatten, G a = none) (hL : L[i]? = some [a, p]) :
    After c L G H L (T.set i (.town ns' k')) G (upd (upd H a (.lst [.ref p, .int k'])) p (.lst (ns'.map .int))) := by
  have ma : a ∈ L.flatten := List.mem_flatten.mpr ⟨_, List.mem_of_getElem? hL, by simp⟩
  have mp : p ∈ L.flatten := List.mem_flatten.mpr ⟨_, List.mem_of_getElem? hL, by simp⟩
  have hap : a ≠ p := by
    intro z
    subst z
    have h2 : [a, a].Nodup := by
      have q := List.mem_of_getElem? hL
      clear hL ma mp lf st hi
      induction L with
      | nil => cases q
      | cons r L ih =>
        rw [List.flatten_cons, List.nodup_append] at nd
        rcases List.mem_cons.mp q with z | z
        · rw [z]; exact nd.1
        · exact ih nd.2.1 z
    simp at h2
  have ne : ∀ {b : Addr} {o : HO}, b ≠ a → b ≠ p → H b = some o → upd (upd H a (.lst [.ref p, .int k'])) p (.lst (ns'.map .int)) b = some o := fun n1 n2 h => by rw [upd_ne n2, upd_ne n1]; exact h
  have out : ∀ {b : Addr}, b ∉ L.flatten → b ≠ a ∧ b ≠ p := fun h => ⟨fun z => h (z ▸ ma), fun z => h (z ▸ mp)⟩
  refine ⟨LE.refl _, Same.refl _, fun b o h => ?_, st.put hi nd hL (fun b hb o h => ?_) ⟨a, p, rfl, by rw [upd_ne hap, upd_same], by rw [upd_same]⟩, nd, lf, fun b o h hl => ne (out hl).1 (out hl).2 h, fun b hb => .inl hb, fun b hb => ?_, fun b h => .inl h, lf⟩
  · have nl : b ∉ L.flatten := fun z => by rw [lf b z] at h; cases h
    rcases sub b o h with z | ⟨z, ob, y⟩
    · exact .inl (ne (out nl).1 (out nl).2 z)
    · exact .inr ⟨z, ob, ne (out nl).1 (out nl).2 y⟩
  · simp only [List.mem_cons, List.not_mem_nil, or_false, not_or] at hb
    exact ne hb.1 hb.2 h
  · by_cases h1 : b = p
    · subst h1; rw [upd_same]; simp
    · rw [upd_ne h1]
      by_cases h2 : b = a
      · subst h2; rw [upd_same]; simp
      · rw [upd_ne h2]; exact st.there b hb
end
abbrev rAddI : R2 := rI0 fun i j => .int (i + j)
abbrev rModI : R2 := rI (fun _ j => 0 < j) fun i j => .int (i % j)
abbrev rDivI : R2 := rI CDiv fun i j => .int (i / j)
abbrev rMulI : R2 := rI CMul fun i j => .int (i * j)
abbrev rPowI : R2 := rI CPow fun i j => .int (i ^ j.toNat)
abbrev rGeI : R2 := rI0 fun i j => .bl (decide (j ≤ i))
abbrev rLnS (K : PySem.W.Frag) : List V → Hp → VK → Prop := fun xs H Q => ∃ p ys, xs = [.ref p] ∧ (SqL K H p ys ∨ SqT K H p ys) ∧ Q (.int ys.length) H
abbrev tI' (i : Int) : TE := tC (.int i)
def tDraw (K : PySem.W.Frag) : TS :=
  tSeq (tAsg (tOp (rIxL K) (tVar 0) (tI' 0)) (gName 2)) <|
  tSeq (tAsg (tOp rAddI (tOp (rIxL K) (tVar 0) (tI' 1)) (tI' 1)) (gSub (tVar 0) (tI' 1) rSetL)) <|
  tSeq (tAsg (tOp rModI (tOp (rIxL K) (tVar 0) (tI' 1)) (tCB (rLnS K) (tCons (tVar 2) tNil))) (gName 3)) <|
  tSeq (tAsg (tOp (rIxL K) (tVar 2) (tVar 3)) (gName 4)) <|
  tSeq (tIfS (tTest (tOp rGeI (tVar 4) (tI' 1000000000000000000))) (tSeq (tAsg (tOp rDivI (tVar 4) (tVar 1)) (gSub (tVar 2) (tVar 3) rSetL)) (tRet (tOp rModI (tVar 4) (tVar 1)))) tNext) <|
  tSeq (tAsg (tOp rModI (tOp rAddI (tVar 4) (tOp rMulI (tI' 104729) (tOp (rIxL K) (tVar 0) (tI' 1)))) (tI' 4294967291)) (gName 5)) <|
  tSeq (tAsg (tOp rModI (tOp rPowI (tVar 5) (tI' 5)) (tI' 4294967279)) (gName 5)) <|
  tRet (tOp rModI (tOp rDivI (tOp rModI (tOp rAddI (tOp rMulI (tOp rDivI (tVar 5) (tI' 64)) (tI' 69621)) (tVar 5)) (tI' 4294967231)) (tI' 8)) (tVar 1))
theorem atI_map {ns : List Int} {i : Int} {j : Nat} {z : Int} (h0 : i = (j : Int)) (h : ns[j]? = some z) : atI (ns.map V.int) i = some (V.int z) := by
  subst h0
  have lt : j < ns.length := (List.getElem?_eq_some_iff.mp h).1
  unfold atI ixN
  rw [if_pos (by omega), if_pos (by simp; omega)]
  simp [h]
theorem pure_draw {K : PySem.W.Frag} {D : Ends} {H : Hp} {a p : Addr} {ns ns' : List Int} {k n r : Int} (h1 : H a = some (.lst [.ref p, .int k])) (h2 : H p = some (.lst (ns.map .int))) (hap : a ≠ p) (hn : 0 < n) (hn2 : n < 1073741824)
    (hd : drawStep ns k n = some (r, ns')) (hQ : D.rt (.int r) (upd (upd H a (.lst [.ref p, .int (k + 1)])) p (.lst (ns'.map .int)))) : tDraw K D [some (.ref a), some (.int n), none, none, none, none] H := by
  have a1 : ∀ {H : Hp} {j : Int}, H a = some (.lst [.ref p, .int j]) → SqL K H a [.ref p, .int j] := fun h => .of h
  unfold drawStep at hd
  dsimp only at hd
  cases hz : ns[((k + 1) % (ns.length : Int)).toNat]? with
  | none => rw [hz] at hd; cases hd
  | some z =>
    rw [hz] at hd
    dsimp only at hd
    have lt : ((k + 1) % (ns.length : Int)).toNat < ns.length := (List.getElem?_eq_some_iff.mp hz).1
    have lp : (0 : Int) < (ns.length : Int) := by omega
    have hi : (k + 1) % (ns.length : Int) = ((((k + 1) % (ns.length : Int)).toNat : Nat) : Int) := by
      have := Int.emod_nonneg (k + 1) (show (ns.length : Int) ≠ 0 by omega)
      omega
    have H1a : upd H a (.lst [.ref p, .int (k + 1)]) a = some (.lst [.ref p, .int (k + 1)]) := upd_same
    have H1p : upd H a (.lst [.ref p, .int (k + 1)]) p = some (.lst (ns.map .int)) := by rw [upd_ne (Ne.symm hap)]; exact h2
    refine ⟨_, rfl, a, _, 0, _, rfl, rfl, a1 h1, rfl, ?_⟩
    refine ⟨_, rfl, a, _, 1, _, rfl, rfl, a1 h1, rfl, k, 1, rfl, rfl, ?_⟩
    refine ⟨_, rfl, a, _, 1, 1, rfl, rfl, h1, rfl, ?_⟩
    refine ⟨_, rfl, a, _, 1, _, rfl, rfl, a1 H1a, rfl, ?_⟩
    refine ⟨_, rfl, p, _, rfl, .inl (.of H1p), ?_⟩
    refine ⟨k + 1, _, rfl, rfl, by rw [List.length_map]; exact lp, ?_⟩
    refine ⟨_, rfl, _, rfl, p, _, _, _, rfl, rfl, .of H1p, atI_map (by rw [List.length_map]; exact hi) hz, ?_⟩
    refine ⟨_, rfl, z, _, rfl, rfl, _, rfl, ?_⟩
    by_cases big : 1000000000000000000 ≤ z
    · rw [if_pos big] at hd
      rw [if_pos (decide_eq_true big)]
      cases hd
      refine ⟨_, rfl, _, rfl, z, n, rfl, rfl, ⟨hn, hn2⟩, ?_⟩
      refine ⟨_, rfl, _, rfl, p, _, _, ((k + 1) % (ns.length : Int)).toNat, rfl, rfl, H1p, ?_, ?_⟩
      · rw [List.length_map]
        unfold ixN
        rw [if_pos (by omega), if_pos (by omega)]
      · refine ⟨_, rfl, _, rfl, z, n, rfl, rfl, hn, ?_⟩
        have e1 : (ns.map V.int).set ((k + 1) % (ns.length : Int)).toNat (.int (z / n)) = (ns.set ((k + 1) % (ns.length : Int)).toNat (z / n)).map V.int := by rw [List.map_set]
        rw [e1]
        exact hQ
    · rw [if_neg big] at hd
      rw [if_neg (by simp; omega)]
      cases hd
      have e2 : upd (upd H a (.lst [.ref p, .int (k + 1)])) p (.lst (ns.map .int)) = upd H a (.lst [.ref p, .int (k + 1)]) := by
        funext b
        by_cases hb : b = p
        · subst hb; rw [upd_same, H1p]
        · rw [upd_ne hb]
      rw [e2] at hQ
      refine ⟨_, rfl, _, rfl, a, _, 1, _, rfl, rfl, a1 H1a, rfl, 104729, k + 1, rfl, rfl, .inl (by omega), z, _, rfl, rfl, ?_⟩
      refine ⟨_, _, rfl, rfl, by omega, ?_⟩
      show gName 5 (V.int ((z + 104729 * (k + 1)) % 4294967291)) _ _ _
      generalize hm : (z + 104729 * (k + 1)) % 4294967291 = m at hQ ⊢
      have m0 : 0 ≤ m := by rw [← hm]; exact Int.emod_nonneg _ (by omega)
      have m1 : m < 4294967291 := by rw [← hm]; exact Int.emod_lt_of_pos _ (by omega)
      refine ⟨_, rfl, m, 5, rfl, rfl, ⟨by omega, by omega, by omega⟩, _, _, rfl, rfl, by omega, ?_⟩
      show gName 5 (V.int (m ^ 5 % 4294967279)) _ _ _
      generalize hm2 : m ^ 5 % 4294967279 = m2 at hQ ⊢
      refine ⟨_, rfl, m2, 64, rfl, rfl, ⟨by omega, by omega⟩, _, _, rfl, rfl, .inr (by omega), ?_⟩
      refine ⟨_, rfl, _, _, rfl, rfl, ?_⟩
      refine ⟨_, _, rfl, rfl, by omega, _, _, rfl, rfl, ⟨by omega, by omega⟩, ?_⟩
      exact ⟨_, rfl, _, n, rfl, rfl, hn, hQ⟩
/-- _law_draw, from its walk -/
theorem Fn.draw {c : Cfg} {mg : Str → Option Value} {base : Heap} {x : Str} {ps N : List Str} {pr : Arguments} {body : List Stmt} {sc : Scope} {k : Nat} {f : Addr} {fd : FuncData} {dvs : List V} {kws : List (Str × V)} (F : FunD c.K x x pr body sc dvs kws f fd) (S : FnScope N ps sc)
    (hm : mg x = some (.ref f)) (hB : Binds c.K fd ps []) (bl : BL mg) (hN : N.length = 6) (hps : ps.length = 2)
    (hb : ∀ (cdv : Value) (A : Around) (outer : List Env) (s : Shared) (H : Hp) (E : XK), Ctx (CxW c mg base N x sc f cdv A outer s H E) c (WX0 E) k → PSs (CxW c mg base N x sc f cdv A outer s H E) body (tDraw c.K)) : Fn c mg base x ps (k + 1) drawM := by
  refine ⟨f, fd, hm, F.kp, hB, F.ok S (fun vs H Q E h => h.1) fun cdv A outer s H vs Q E hr h => ⟨tDraw c.K, hb cdv A outer s H E ⟨rfl, rfl, rfl, rfl, S.nd, hr, takes_of rfl rfl rfl rfl, bl⟩, ?_⟩⟩
  obtain ⟨hl, L, T, G, ds, sub, st, nd, lf, r, p⟩ := h
  rcases hF : drawM ds T with ⟨d, T'⟩ | ⟨j, T'⟩ | _
  · rw [hF] at p
    obtain ⟨i, n, ns, j, y, ns', rfl, hT, z, hd, rfl, rfl⟩ := drawM_ok hF
    cases r with
    | cons r1 r2 =>
      cases r2 with
      | cons r3 r4 =>
        cases r4
        cases r3
        cases r1 with
        | @cell a _ t hL =>
          obtain ⟨q, hL2, a2, n2, e1, h1, h2⟩ := st.at_ hT
          rw [hL] at hL2
          cases hL2
          cases e1
          have e0 : L2.start N [V.ref a, V.int n] = [some (.ref a), some (.int n), none, none, none, none] := by unfold L2.start; rw [hN]; rfl
          rw [e0]
          refine pure_draw h1 h2 (fun z => ?_) z.1 z.2 hd (p (.int y) L G _ (town_after (ns := ns) (k := j) sub st (List.getElem?_eq_some_iff.mp hT).1 nd lf hL) (.int y))
          rw [z] at h1; rw [h1] at h2
          cases ns with
          | nil => cases h2
          | cons _ _ => injection h2 with h2; injection h2 with h2; injection h2 with h3 h4; cases h3
  · exact absurd hF (drawM_noexn ds T j T')
  · rw [hF] at p; exact p.elim
end WW
set_option maxHeartbeats 1000000
namespace WW
open PySem PySem.Spec PyProof.Rows L2
def first (ns : List Int) : List Int := if ns = [] then [0] else ns
def tTown (K : PySem.W.Frag) : TS := tRet (tLst (tCons (tIf (tTest (tOp (rNeD K) (tVar 0) (tLst tNil)))
  (tCB (fun xs H Q => ∃ p ys, xs = [.ref p] ∧ (SqL K H p ys ∨ SqT K H p ys) ∧ ∀ l, H l = none → Q (.ref l) (upd H l (.lst ys))) (tCons (tVar 0) tNil)) (tLst (tCons (tI' 0) tNil))) (tCons (tI' 0) tNil)))
def spTown (c : Cfg) : Sp := fun vs H Q _ => ∃ (a : Addr) (ns : List Int), vs = [.ref a] ∧ SqL c.K H a (ns.map V.int) ∧
  ∀ p q H', p ≠ q → H p = none → H q = none → H' p = some (.lst [.ref q, .int 0]) → H' q = some (.lst ((first ns).map V.int)) → (∀ b o, H b = some o → H' b = some o) → Q (.ref p) H'
theorem dp_ints {K : PySem.W.Frag} {H : Hp} : ∀ ns : List Int, DpAll K H (ns.map V.int) (ns.map PyData.int)
  | [] => .nil
  | n :: ns => .cons (.int n) (dp_ints ns)
theorem sqL_upd {K : PySem.W.Frag} {H : Hp} {a p : Addr} {o : HO} {xs : List V} (h : SqL K H a xs) (hp : H p = none) : SqL K (upd H p o) a xs := by
  rcases h with (h | ⟨ob, h⟩) | h
  · exact .inl (.inl (by rw [upd_ne (ne_of_none h hp)]; exact h))
  · exact .inl (.inr ⟨ob, by rw [upd_ne (ne_of_none h hp)]; exact h⟩)
  · exact .inr h
theorem ints_shaped : ∀ ns : List Int, PyData.canLayAll0 (ns.map PyData.int) = true ∧ PyData.depthAll (ns.map PyData.int) = 0
  | [] => ⟨rfl, rfl⟩
  | n :: ns => by
    obtain ⟨h1, h2⟩ := ints_shaped ns
    exact ⟨by simp only [List.map_cons, PyData.canLayAll0, PyData.canLay0, h1]; rfl, by simp only [List.map_cons, PyData.depthAll, PyData.depth, h2]; rfl⟩
theorem shaped_ints (ns : List Int) : SeqAt.shaped (.list (ns.map PyData.int)) = true := by
  obtain ⟨h1, h2⟩ := ints_shaped ns
  unfold SeqAt.shaped
  simp only [PyData.canLay0, PyData.depth, h1, h2]
  rfl
theorem pure_town {c : Cfg} {D : Ends} {H : Hp} {a : Addr} {ns : List Int} (hS : SqL c.K H a (ns.map V.int))
    (hQ : ∀ p q H', p ≠ q → H p = none → H q = none → H' p = some (.lst [.ref q, .int 0]) → H' q = some (.lst ((first ns).map V.int)) → (∀ b o, H b = some o → H' b = some o) → D.rt (.ref p) H') : tTown c.K D [some (.ref a)] H := by
  refine ⟨_, rfl, by decide, fun e he => ?_⟩
  refine ⟨.list (ns.map PyData.int), .list [], .lst (sqL_upd hS he) (dp_ints ns), .lst (.of upd_same) .nil, shaped_ints ns, rfl, ?_⟩
  have kp1 : ∀ b o, H b = some o → upd H e (.lst []) b = some o := fun b o h => by rw [upd_ne (ne_of_none h he)]; exact h
  cases ns with
  | nil =>
    refine ⟨false, by simp [PyData.eqv, PyData.eqvAll], ?_⟩
    dsimp only
    rw [if_neg (by simp)]
    refine ⟨by decide, fun q hq => ⟨show 2 ≤ sizeLine by decide, fun p hp => ?_⟩⟩
    have hq0 : H q = none := by
      cases z : H q with
      | none => rfl
      | some o => rw [kp1 q o z] at hq; cases hq
    have hp1 : upd H e (.lst []) p = none ∧ p ≠ q := by
      by_cases z : p = q
      · rw [z, upd_same] at hp; cases hp
      · rw [upd_ne z] at hp; exact ⟨hp, z⟩
    have hp0 : H p = none := by
      cases z : H p with
      | none => rfl
      | some o => rw [kp1 p o z] at hp1; cases hp1.1
    refine hQ p q _ hp1.2 hp0 hq0 upd_same (by rw [upd_ne (Ne.symm hp1.2), upd_same]; rfl) fun b o h => ?_
    rw [upd_ne (ne_of_none h hp0), upd_ne (ne_of_none h hq0)]
    exact kp1 b o h
  | cons n ns =>
    refine ⟨true, by simp [PyData.eqv, PyData.eqvAll], ?_⟩
    dsimp only
    rw [if_pos rfl]
    refine ⟨_, rfl, a, _, rfl, .inl (sqL_upd hS he), fun q hq => ⟨show 2 ≤ sizeLine by decide, fun p hp => ?_⟩⟩
    have hq0 : H q = none := by
      cases z : H q with
      | none => rfl
      | some o => rw [kp1 q o z] at hq; cases hq
    have hp1 : upd H e (.lst []) p = none ∧ p ≠ q := by
      by_cases z : p = q
      · rw [z, upd_same] at hp; cases hp
      · rw [upd_ne z] at hp; exact ⟨hp, z⟩
    have hp0 : H p = none := by
      cases z : H p with
      | none => rfl
      | some o => rw [kp1 p o z] at hp1; cases hp1.1
    refine hQ p q _ hp1.2 hp0 hq0 upd_same (by rw [upd_ne (Ne.symm hp1.2), upd_same]; rfl) fun b o h => ?_
    rw [upd_ne (ne_of_none h hp0), upd_ne (ne_of_none h hq0)]
    exact kp1 b o h
/-- like Fn, of any promise -/
structure FnS (c : Cfg) (mg : Str → Option Value) (base : Heap) (x : Str) (ps : List Str) (k : Nat) (sp : Sp) : Prop where
  ex : ∃ f fd, mg x = some (.ref f) ∧ PySem.W.keepIn c.K (.ref f) = true ∧ Binds c.K fd ps [] ∧ FnOk c.P c.w c.K mg base (L2.CX c.P c.w) k f fd ps sp
theorem FnS.town {c : Cfg} {mg : Str → Option Value} {base : Heap} {x : Str} {ps N : List Str} {pr : Arguments} {body : List Stmt} {sc : Scope} {k : Nat} {f : Addr} {fd : FuncData} {dvs : List V} {kws : List (Str × V)} (F : FunD c.K x x pr body sc dvs kws f fd) (S : FnScope N ps sc)
    (hm : mg x = some (.ref f)) (hB : Binds c.K fd ps []) (bl : BL mg) (hN : N.length = 1) (hps : ps.length = 1)
    (hb : ∀ (cdv : Value) (A : Around) (outer : List Env) (s : Shared) (H : Hp) (E : XK), Ctx (CxW c mg base N x sc f cdv A outer s H E) c (WX0 E) k → PSs (CxW c mg base N x sc f cdv A outer s H E) body (tTown c.K)) : FnS c mg base x ps (k + 1) (spTown c) := by
  refine ⟨f, fd, hm, F.kp, hB, F.ok S (fun vs H Q E h => ?_) fun cdv A outer s H vs Q E hr h => ⟨tTown c.K, hb cdv A outer s H E ⟨rfl, rfl, rfl, rfl, S.nd, hr, takes_of rfl rfl rfl rfl, bl⟩, ?_⟩⟩
  · obtain ⟨a, ns, rfl, _⟩ := h
    rw [hps]; rfl
  · obtain ⟨a, ns, rfl, hS, hQ⟩ := h
    have e0 : L2.start N [V.ref a] = [some (.ref a)] := by unfold L2.start; rw [hN]; rfl
    rw [e0]
    exact pure_town hS hQ
/-- the law, as its mirror runs on the numbers ns -/
def runL (n : Nat) (f : Sx) (ns : List Int) : Rs D := (f ((List.replicate n none).set 1 (some (.d (.cell 0)))) >>= endM) [.town (first ns) 0]
def spLaw (c : Cfg) : Sp := fun vs H Q _ => ∃ (a : Addr) (ns : List Int), vs = [.ref a] ∧ SqL c.K H a (ns.map V.int) ∧ ns.length ≤ 63 ∧ (∃ R, Tail c H R ∧ R.flatten.Nodup) ∧ ∀ H', Q (.bl true) H'
theorem spLaw_plain {c : Cfg} {H : Hp} {Q : VK} {E : XK} {a : Addr} {ns : List Int} (ht : c.tb = none) (hS : SqL c.K H a (ns.map V.int)) (hl : ns.length ≤ 63) (hQ : ∀ H', Q (.bl true) H') : spLaw c [.ref a] H Q E :=
  ⟨a, ns, rfl, hS, hl, ⟨[], by unfold Tail; rw [ht], by simp⟩, hQ⟩
section
variable {X : Cx} {c : Cfg} {W : WX} {k j : Nat} {p pos pos' pos3 : Pos} {x y z : Str} {ps : List Str} {f : Sx} {sts : List Stmt}
def tLaw (c : Cfg) (W : WX) (f : Sx) : TS := tSeq (tAsg (tCallS (spTown c) (WE W) (tCons (tVar 0) tNil)) (gName 1)) (tS c W f)
theorem pss_law (h : Ctx X c W k) (C : FnS c X.mg X.base x ps j (spTown c)) (hj : j ≤ k) (hr : PSs X sts (tS c W f)) {pe : Pos} (h0 : X.N[0]? = some y := by rfl) (h1 : X.N[1]? = some z := by rfl) (hg : Gl X x := by rfl) (hdb : (x == ("__debug__" : Str)) = false := by decide)
    (hv : Vis X.env.scope y := by first | exact Or.inl rfl | exact Or.inr (Or.inl rfl) | exact Or.inr (Or.inr rfl)) (hd : (y == ("__debug__" : Str)) = false := by decide) (hcd : (y == ("__classdict__" : Str)) = false := by decide)
    (hx : Loc X.env.scope z := by first | exact Or.inl rfl | exact Or.inr rfl) (hf : X.fn z = true ∨ X.env.scope.names.lookup z = some .local := by first | exact .inl rfl | exact .inr rfl) :
    PSs X (.Assign [.Name z pos'] (.Call (.Name x p) [.Name y pe] [] pos) pos3 :: sts) (tLaw c W f) := by
  obtain ⟨f0, fd, e1, e2, e3, e4⟩ := C.ex
  have e4' : FnOk X.prog X.w X.K X.mg X.base (L2.CX X.prog X.w) j f0 fd ps (spTown c) := by rw [h.hP, h.hw, h.hK]; exact e4
  have e3' : Binds X.K fd ps [] := by rw [h.hK]; exact e3
  have e2' : PySem.W.keepIn X.K (.ref f0) = true := by rw [h.hK]; exact e2
  exact pss_cons (ps_set h.nd h1 hx (pe_callS e4' (h.room.mono hj) hg e1 e2' e3' (fun σ => passAt h.tk σ) (pa_cons (pe_var h0 hv hd hcd) pa_nil) hdb) rfl hf) hr
end
theorem pure_law {c : Cfg} {W : WX} {f : Sx} {n : Nat} {N : List Str} {H : Hp} {vs : List V} {Q : VK} {E : XK} (hN : N.length = n) (h2 : 2 ≤ n) (hf : ∀ ns : List Int, ns.length ≤ 63 → ∃ T', runL n f ns = .ok (.bl true) T') (h : spLaw c vs H Q E) : tLaw c W f { nx := fun _ H' => Q .non H', rt := Q } (L2.start N vs) H := by
  obtain ⟨a, ns, rfl, hS, hl, ⟨R, tl, ndR⟩, hQ⟩ := h
  have e0 : (L2.start N [V.ref a])[0]? = some (some (.ref a)) := rfl
  refine ⟨_, e0, a, ns, rfl, hS, fun p q H' hpq hp hq h1 h2' hk => ?_⟩
  obtain ⟨T', hr⟩ := hf ns hl
  have ln : (L2.start N [V.ref a]).length = n := by unfold L2.start; simp; omega
  have inR : ∀ b ∈ R.flatten, H b ≠ none := tl.there
  have inR' : ∀ b ∈ R.flatten, H' b ≠ none := fun b hb => by
    cases z : H b with
    | none => exact absurd z (inR b hb)
    | some o => rw [hk b o z]; simp
  have pR : p ∉ R.flatten := fun z => inR p z hp
  have qR : q ∉ R.flatten := fun z => inR q z hq
  have nd0 : ([p, q] :: R).flatten.Nodup := by
    rw [List.flatten_cons, List.nodup_append]
    refine ⟨by simp [hpq], ndR, fun a ha b hb z => ?_⟩
    simp only [List.mem_cons, List.not_mem_nil, or_false] at ha
    rcases ha with e | e
    · rw [e] at z; exact pR (z ▸ hb)
    · rw [e] at z; exact qR (z ▸ hb)
  refine ⟨⟨[p, q] :: R, H', fun _ => none, [], []⟩, [p, q] :: R, [.town (first ns) 0], fun _ => none, (List.replicate n none).set 1 (some (.d (.cell 0))), ?_, ?_⟩
  · refine ⟨fun b o e => (by cases e), fun b o e _ => ⟨fun _ => e, fun m => by cases m⟩, .cons ⟨p, q, rfl, h1, h2'⟩ (.nil (tl.keeps fun b _ o z => hk b o z)), nd0, fun _ _ => rfl, fun b hb => .inl hb, fun _ _ => rfl, fun b hb => .inl hb, fun b hb => ?_, fun b hb => ?_, by rw [List.length_set, List.length_set, List.length_replicate, ln], fun i sv hi => ?_, fun y hy => absurd hy (by simp), fun i j y z hij hi hj oy => ?_⟩
    · have hb' : (b = p ∨ b = q) ∨ b ∈ R.flatten := by rw [List.flatten_cons, List.mem_append] at hb; exact hb.imp (fun z => by simpa using z) id
      rcases hb' with (z | z) | z
      · rw [z, h1]; simp
      · rw [z, h2']; simp
      · exact inR' b z
    · have hb' : (b = p ∨ b = q) ∨ b ∈ R.flatten := by rw [List.flatten_cons, List.mem_append] at hb; exact hb.imp (fun z => by simpa using z) id
      rcases hb' with (z | z) | z
      · rw [z]; show H' p ≠ none; rw [h1]; simp
      · rw [z]; show H' q ≠ none; rw [h2']; simp
      · exact inR' b z
    · rcases get_set hi with ⟨rfl, e1⟩ | ⟨hne, e1⟩
      · cases e1
        exact ⟨.ref p, by rw [List.getElem?_set_self (by omega)], .cell (r := [q]) rfl⟩
      · rw [List.getElem?_replicate] at e1
        split at e1 <;> cases e1
    · rcases get_set hi with ⟨rfl, e1⟩ | ⟨hne, e1⟩
      · cases e1; exact oy.elim
      · rw [List.getElem?_replicate] at e1
        split at e1 <;> cases e1
  · unfold runL at hr
    obtain ⟨fl, T1, k1, k2⟩ := bind_ok hr
    rw [k1]
    cases fl with
    | nx ρ' => cases k2
    | rt d =>
      cases k2
      intro v L' G' H2 σ' ρ' _ _ _ rv
      cases rv
      exact hQ H2
    | bk ρ' => cases k2
    | ct ρ' => cases k2
abbrev CxL (c : Cfg) (mg : Str → Option Value) (base : Heap) (N : List Str) (x : Str) (sc : Scope) (f : Addr) (cdv : Value) (A : Around) (outer : List Env) (s : Shared) (H : Hp) (E : XK) : Cx := cxOf CX0 c.P c.w c.K mg base N x sc f cdv A outer s H E
/-- the law's def -/
theorem law_fn {c : Cfg} {mg : Str → Option Value} {base : Heap} {x y : Str} {N : List Str} {pr : Arguments} {body : List Stmt} {sc : Scope} {k n : Nat} {fb : Sx} {f : Addr} {fd : FuncData} {dvs : List V} {kws : List (Str × V)} (F : FunD c.K x x pr body sc dvs kws f fd) (S : FnScope N [y] sc)
    (bl : BL mg) (hN : N.length = n) (h2 : 2 ≤ n) (hf : ∀ ns : List Int, ns.length ≤ 63 → ∃ T', runL n fb ns = .ok (.bl true) T')
    (hb : ∀ (cdv : Value) (A : Around) (outer : List Env) (s : Shared) (H : Hp) (E : XK), Ctx (CxL c mg base N x sc f cdv A outer s H E) c W0 k → PassesOwn (model c.P c.w) (CxL c mg base N x sc f cdv A outer s H E).A (CxL c mg base N x sc f cdv A outer s H E).env (CxL c mg base N x sc f cdv A outer s H E).xe →
      PSs (CxL c mg base N x sc f cdv A outer s H E) body (tLaw c W0 fb)) : FnOk c.P c.w c.K mg base CX0 (k + 1) f fd [y] (spLaw c) := by
  refine F.ok S (fun vs H Q E h => ?_) fun cdv A outer s H vs Q E hr h => ⟨tLaw c W0 fb, hb cdv A outer s H E ⟨rfl, rfl, rfl, rfl, S.nd, hr, takes0, bl⟩ (passes_of rfl), pure_law hN h2 hf h⟩
  obtain ⟨a, ns, rfl, _⟩ := h
  rfl
end WW
set_option maxHeartbeats 1000000
namespace WW
open PySem PySem.Spec PyProof.Rows L2
/-- a block's names, by evaluation -/
def blkB (N : List Str) (ns : List (Str × NameKind)) (scope : Scope) (own : List (Str × Nat)) : Bool :=
  decide (scope.kind = .function) && ((scope.names.all fun y => decide (scope.names.lookup y.1 = some y.2)) && ((own.all fun p => decide (N[p.2]? = some p.1)) &&
    ((scope.names.all fun y => !decide (y.2 = .free) || (decide (ns.lookup y.1 = some .cell) || decide (ns.lookup y.1 = some .free))) &&
      scope.names.all fun y => !(decide (y.2 = .local) || decide (y.2 = .cell)) || (decide (y.1 ∈ own.map (·.1)) || !decide (y.1 ∈ N)))))
theorem blk_of {N : List Str} {sc scope : Scope} {own : List (Str × Nat)} (h : blkB N sc.names scope own = true) : BlkOk N sc scope own := by
  unfold blkB at h
  simp only [Bool.and_eq_true, List.all_eq_true, decide_eq_true_eq, Bool.or_eq_true, Bool.not_eq_true', decide_eq_false_iff_not] at h
  obtain ⟨h1, h2, h3, h4, h5⟩ := h
  refine ⟨h1, h2, h3, fun y hy e => ?_, fun y hy e => ?_⟩
  · rcases h4 y hy with z | z
    · exact absurd e z
    · exact z
  · rcases h5 y hy with z | z
    · exfalso
      simp only [Bool.or_eq_false_iff, decide_eq_false_iff_not] at z
      rcases e with e | e
      · exact z.1 e
      · exact z.2 e
    · exact z
/-- a, b = x, y, the names' stores swapped -/
def sPar (is : List Nat) (as : List Ex) : Sx := fun ρ => dArgs as ρ >>= fun ds => M.ret (.nx (setsE is ds ρ))
section
variable {X : Cx} {c : Cfg} {W : WX} {k : Nat} {a b d : Expr} {fa fb fd : Ex} {x y z : Str} {pos px py pz pt pt2 : Pos} {kt k2 : Nat}
theorem par_end {as : List Ex} {is : List Nat} {D : Ends} {σ : L2.St} {H : Hp} (q : tS c W (sPar is as) D σ H) : tL c W (dArgs as) σ H fun vs H1 => ∃ e L T G ρ ds, Sta c e L T G H1 σ ρ ∧ RepL c L G vs ds ∧ ds.length = as.length ∧ ∀ σ', Sta c e L T G H1 σ' (setsE is ds ρ) → D.nx σ' H1 := by
  obtain ⟨e, L, T, G, ρ, S, p⟩ := q
  refine ⟨e, L, T, G, ρ, S, ?_⟩
  unfold sPar at p
  cases hr : dArgs as ρ T with
  | bad => rw [bnd_bad hr] at p; exact p
  | exn k T' => rw [bnd_exn hr] at p; exact fun L' G' H' h1 h2 S' => p L' G' H' σ ρ h1 h2 S'
  | ok ds T' =>
    rw [bnd_ok hr] at p
    exact fun vs L' G' H' h1 h2 S' r => ⟨e, L', T', G', ρ, ds, S', r, dArgs_length as ρ T ds T' hr, fun σ' S2 => p L' G' H' σ' h1 h2 S2⟩
theorem ds_par (i j : Nat) (h : Ctx X c W k) (ha : PE X a (tD c W fa)) (hb : PE X b (tD c W fb)) (hi : X.N[i]? = some x := by rfl) (hj : X.N[j]? = some y := by rfl) (hij : i ≠ j := by decide)
    (hx : X.env.scope.names.lookup x = some .local := by rfl) (hy : X.env.scope.names.lookup y = some .local := by rfl) (ns : NS a := by intro _ _; rfl) (ns2 : NS b := by intro _ _; rfl)
    (hw : swappedStores [.Tuple [.Name x px, .Name y py] kt pt] (.Tuple [a, b] k2 pt2) X.env = pure (some [x, y]) := by rfl)
    (hs : swapsWithSole [.Tuple [.Name x px, .Name y py] kt pt] (.Tuple [a, b] k2 pt2) pos.line X.env = pure false := by rfl) :
    PS X (.Assign [.Tuple [.Name x px, .Name y py] kt pt] (.Tuple [a, b] k2 pt2) pos) (tS c W (sPar [i, j] [fa, fb])) := by
  refine (ps_par h.calm h.nd hi hj hij hx hy (da_cons ha (da_cons hb da_nil (ns2 _ _)) (ns _ _)) hw hs).imp fun D σ H q => (par_end q).mono fun vs H1 q1 => ?_
  obtain ⟨e, L, T, G, ρ, ds, S, r, hl, p⟩ := q1
  obtain ⟨d1, d2, rfl⟩ : ∃ d1 d2, ds = [d1, d2] := match ds, hl with | [d1, d2], _ => ⟨d1, d2, rfl⟩
  cases r with
  | cons r1 r =>
    cases r with
    | cons r2 r =>
      cases r
      exact ⟨_, _, rfl, p _ (sets_ok (is := [i, j]) S (.cons r1 (.cons r2 .nil)))⟩
theorem ds_par3 (i j l : Nat) (h : Ctx X c W k) (ha : PE X a (tD c W fa)) (hb : PE X b (tD c W fb)) (hd : PE X d (tD c W fd)) (hi : X.N[i]? = some x := by rfl) (hj : X.N[j]? = some y := by rfl) (hl : X.N[l]? = some z := by rfl)
    (hij : i ≠ j := by decide) (hil : i ≠ l := by decide) (hjl : j ≠ l := by decide)
    (hx : X.env.scope.names.lookup x = some .local := by rfl) (hy : X.env.scope.names.lookup y = some .local := by rfl) (hz : X.env.scope.names.lookup z = some .local := by rfl) (ns : NS a := by intro _ _; rfl) (ns2 : NS b := by intro _ _; rfl) (ns3 : NS d := by intro _ _; rfl)
    (hw : swappedStores [.Tuple [.Name x px, .Name y py, .Name z pz] kt pt] (.Tuple [a, b, d] k2 pt2) X.env = pure (some [x, y, z]) := by rfl)
    (hs : swapsWithSole [.Tuple [.Name x px, .Name y py, .Name z pz] kt pt] (.Tuple [a, b, d] k2 pt2) pos.line X.env = pure false := by rfl) :
    PS X (.Assign [.Tuple [.Name x px, .Name y py, .Name z pz] kt pt] (.Tuple [a, b, d] k2 pt2) pos) (tS c W (sPar [i, j, l] [fa, fb, fd])) := by
  refine (ps_par3 h.calm h.nd hi hj hl hij hil hjl hx hy hz (da_cons ha (da_cons hb (da_cons hd da_nil (ns3 _ _)) (ns2 _ _)) (ns _ _)) hw hs).imp fun D σ H q => (par_end q).mono fun vs H1 q1 => ?_
  obtain ⟨e, L, T, G, ρ, ds, S, r, hl, p⟩ := q1
  obtain ⟨d1, d2, d3, rfl⟩ : ∃ d1 d2 d3, ds = [d1, d2, d3] := match ds, hl with | [d1, d2, d3], _ => ⟨d1, d2, d3, rfl⟩
  cases r with
  | cons r1 r =>
    cases r with
    | cons r2 r =>
      cases r with
      | cons r3 r =>
        cases r
        exact ⟨_, _, _, rfl, p _ (sets_ok (is := [i, j, l]) S (.cons r1 (.cons r2 (.cons r3 .nil))))⟩
end
end WW
set_option maxHeartbeats 1000000
namespace WW
open PySem PySem.Spec PyProof.Rows L2
mutual
inductive NK (K : PySem.W.Frag) (H : Hp) : V → NestedKey → Prop
  | non : NK K H .non .none
  | bl (b : Bool) : NK K H (.bl b) (.num (if b = true then 1 else 0))
  | int (i : Int) : NK K H (.int i) (.num i)
  | str (s : Str) : NK K H (.str s) (.text s)
  | tup {a vs ks} : SqT K H a vs → NKs K H vs ks → NK K H (.ref a) (.tup ks)
inductive NKs (K : PySem.W.Frag) (H : Hp) : List V → List NestedKey → Prop
  | nil : NKs K H [] []
  | cons {v vs k ks} : NK K H v k → NKs K H vs ks → NKs K H (v :: vs) (k :: ks)
end
section
variable {X : Cx} {pins : List (Addr × Obj)} {σ : L2.St} {H : Hp} {s : Shared}
mutual
theorem nested_of (I : Inv X pins σ H s) : ∀ (k : NestedKey) (v : V) (u : Value), NK X.K H v k → RelV v u → NestedIs s.heap k u
  | .none, v, u, h, r => by cases h; cases r; exact .none
  | .num i, v, u, h, r => by
    cases h with
    | bl b => cases r; exact .bool rfl
    | int i => obtain ⟨t, rfl⟩ := r; exact .int i t
  | .text x, v, u, h, r => by
    cases h with
    | str x => obtain ⟨t, rfl⟩ := r; exact .text x t
  | .tup ks, v, u, h, r => by
    cases h with
    | tup h1 h2 =>
      cases r
      obtain ⟨its, rv, it, _⟩ := I.tuple h1
      obtain ⟨o, ho, hc, n, hd⟩ := it
      exact .tup ho hc hd (nested_ofs I ks _ its h2 rv)
theorem nested_ofs (I : Inv X pins σ H s) : ∀ (ks : List NestedKey) (vs : List V) (us : List Value), NKs X.K H vs ks → Vals vs us → NestedAll s.heap ks us
  | [], _, _, h, r => by cases h; cases r; exact .nil
  | k :: ks, _, _, h, r => by
    cases h with
    | cons h1 h2 =>
      cases r with
      | cons r1 r2 => exact .cons (nested_of I k _ _ h1 r1) (nested_ofs I ks _ _ h2 r2)
end
end
section
variable {c : Cfg} {L : List (List Addr)} {G H : Hp}
mutual
theorem rep_nk (s : Sub G H) : ∀ (d : D) (v : V) (k : NestedKey), Rep c L G v d → toNK d = some k → NK c.K H v k
  | .non, _, _, h, e => by cases h; cases e; exact .non
  | .bl b, _, _, h, e => by cases h; cases e; exact .bl b
  | .int i, _, _, h, e => by cases h; cases e; exact .int i
  | .str x, _, _, h, e => by cases h; cases e; exact .str x
  | .tup ds, _, k, h, e => by
    cases h with
    | tup h1 h2 h3 =>
      simp only [toNK] at e
      cases q : toNKs ds with
      | none => rw [q] at e; cases e
      | some ks => rw [q] at e; cases e; exact .tup (s.sqT h1) (rep_nks s ds _ ks h2 q)
  | .lst _, _, _, _, e => by cases e
  | .dct _ _, _, _, _, e => by cases e
  | .exc _, _, _, _, e => by cases e
  | .cell _, _, _, _, e => by cases e
theorem rep_nks (s : Sub G H) : ∀ (ds : List D) (vs : List V) (ks : List NestedKey), RepL c L G vs ds → toNKs ds = some ks → NKs c.K H vs ks
  | [], _, _, h, e => by cases h; cases e; exact .nil
  | d :: ds, _, ks, h, e => by
    cases h with
    | cons h1 h2 =>
      simp only [toNKs] at e
      cases q1 : toNK d with
      | none => rw [q1] at e; cases e
      | some k =>
        cases q2 : toNKs ds with
        | none => rw [q1, q2] at e; cases e
        | some r => rw [q1, q2] at e; cases e; exact .cons (rep_nk s d _ k h1 q1) (rep_nks s ds _ r h2 q2)
end
end
mutual
theorem eqB_nk : ∀ (a b : D) (x y : NestedKey), toNK a = some x → toNK b = some y → eqB a b = decide (x = y)
  | .non, b, x, y, ha, hb => by cases ha; cases b <;> first | (cases hb; rfl) | (simp [toNK] at hb; obtain ⟨_, _, rfl⟩ := hb; rfl) | (simp [toNK] at hb)
  | .bl a, b, x, y, ha, hb => by
    cases ha
    cases b with
    | bl b => cases hb; cases a <;> cases b <;> rfl
    | int i => cases hb; simp only [eqB]; cases a <;> simp <;> (by_cases h : (0 : Int) = i <;> by_cases h2 : (1 : Int) = i <;> simp_all)
    | non => cases hb; rfl
    | str _ => cases hb; rfl
    | tup ds => simp [toNK] at hb; obtain ⟨_, _, rfl⟩ := hb; rfl
    | _ => simp [toNK] at hb
  | .int a, b, x, y, ha, hb => by
    cases ha
    cases b with
    | bl b => cases hb; simp only [eqB]; by_cases h : a = (if b = true then 1 else 0) <;> simp [h]
    | int i => cases hb; simp only [eqB]; by_cases h : a = i <;> simp [h]
    | non => cases hb; rfl
    | str _ => cases hb; rfl
    | tup ds => simp [toNK] at hb; obtain ⟨_, _, rfl⟩ := hb; rfl
    | _ => simp [toNK] at hb
  | .str a, b, x, y, ha, hb => by
    cases ha
    cases b with
    | str z => cases hb; simp only [eqB]; by_cases h : a = z
               · subst h; simp
               · have : (a == z) = false := by cases q : a == z with | false => rfl | true => exact absurd (eq_of_beq q) h
                 rw [this]; simp [h]
    | bl _ => cases hb; rfl
    | int _ => cases hb; rfl
    | non => cases hb; rfl
    | tup ds => simp [toNK] at hb; obtain ⟨_, _, rfl⟩ := hb; rfl
    | _ => simp [toNK] at hb
  | .tup xs, b, x, y, ha, hb => by
    simp only [toNK] at ha
    cases q : toNKs xs with
    | none => rw [q] at ha; cases ha
    | some kx =>
      rw [q] at ha; cases ha
      cases b with
      | tup ys =>
        simp only [toNK] at hb
        cases q2 : toNKs ys with
        | none => rw [q2] at hb; cases hb
        | some ky =>
          rw [q2] at hb; cases hb
          simp only [eqB]
          rw [eqB_nks xs ys kx ky q q2]
          by_cases h : kx = ky <;> simp [h]
      | bl _ => cases hb; rfl
      | int _ => cases hb; rfl
      | non => cases hb; rfl
      | str _ => cases hb; rfl
      | _ => simp [toNK] at hb
  | .lst _, _, _, _, ha, _ => by simp [toNK] at ha
  | .dct _ _, _, _, _, ha, _ => by simp [toNK] at ha
  | .exc _, _, _, _, ha, _ => by simp [toNK] at ha
  | .cell _, _, _, _, ha, _ => by simp [toNK] at ha
theorem eqB_nks : ∀ (as bs : List D) (xs ys : List NestedKey), toNKs as = some xs → toNKs bs = some ys → eqBs as bs = decide (xs = ys)
  | [], [], _, _, ha, hb => by cases ha; cases hb; rfl
  | [], b :: bs, _, _, ha, hb => by
    cases ha
    simp only [toNKs] at hb
    cases q1 : toNK b <;> cases q2 : toNKs bs <;> rw [q1, q2] at hb <;> cases hb
    rfl
  | a :: as, [], _, _, ha, hb => by
    cases hb
    simp only [toNKs] at ha
    cases q1 : toNK a <;> cases q2 : toNKs as <;> rw [q1, q2] at ha <;> cases ha
    rfl
  | a :: as, b :: bs, _, _, ha, hb => by
    simp only [toNKs] at ha hb
    cases q1 : toNK a with
    | none => rw [q1] at ha; cases ha
    | some ka =>
      cases q2 : toNKs as with
      | none => rw [q1, q2] at ha; cases ha
      | some kas =>
        cases q3 : toNK b with
        | none => rw [q3] at hb; cases hb
        | some kb =>
          cases q4 : toNKs bs with
          | none => rw [q3, q4] at hb; cases hb
          | some kbs =>
            rw [q1, q2] at ha
            rw [q3, q4] at hb
            cases ha; cases hb
            simp only [eqBs]
            rw [eqB_nk a b ka kb q1 q3, eqB_nks as bs kas kbs q2 q4]
            by_cases h1 : ka = kb <;> by_cases h2 : kas = kbs <;> simp [h1, h2]
end
end WW
set_option maxHeartbeats 1000000
namespace WW
open PySem PySem.Spec PyProof.Rows L2
abbrev Ent := NestedKey × Addr × V
abbrev RelE : Ent → NestedKey × Addr × Value → Prop := fun p q => p.1 = q.1 ∧ p.2.1 = q.2.1 ∧ RelV p.2.2 q.2.2
def nGet (es : List Ent) (k : NestedKey) : Option V := (es.find? fun e => decide (e.1 = k)).map (·.2.2)
def nPutAt (k : NestedKey) (v : V) (e : Ent) : Ent := if e.1 = k then (e.1, e.2.1, v) else e
def nPut (es : List Ent) (k : NestedKey) (b : Addr) (v : V) : List Ent := if (nGet es k).isSome then es.map (nPutAt k v) else es ++ [(k, b, v)]
theorem nget_rel {k : NestedKey} : ∀ {es : List Ent} {xs : List (NestedKey × Addr × Value)}, Paired RelE es xs → RelO (nGet es k) ((atKey xs k).map (·.2))
  | _, _, .nil => trivial
  | e :: es, x :: xs, .cons r t => by
    obtain ⟨r1, r2, r3⟩ := r
    by_cases h : e.1 = k
    · have h2 : x.1 = k := by rw [← r1]; exact h
      simp only [nGet, atKey, List.find?_cons, h, h2, decide_true, Option.map_some]
      exact r3
    · have h2 : ¬ x.1 = k := by rw [← r1]; exact h
      have ih := nget_rel (k := k) t
      simp only [nGet, atKey, List.find?_cons, h, h2, decide_false]
      exact ih
theorem nput_rel {k : NestedKey} {b : Addr} {v : V} {u : Value} {es : List Ent} {xs : List (NestedKey × Addr × Value)} (r : Paired RelE es xs) (rv : RelV v u) : Paired RelE (nPut es k b v) (storedH xs k b u) := by
  have q := (nget_rel (k := k) r).isSome_eq
  rw [Option.isSome_map] at q
  unfold nPut storedH
  by_cases h : (nGet es k).isSome = true
  · rw [if_pos h, if_pos (by rw [← q]; exact h)]
    clear q h
    induction r with
    | nil => exact .nil
    | @cons e x es xs r t ih =>
      obtain ⟨r1, r2, r3⟩ := r
      refine .cons ?_ ih
      unfold nPutAt putAt
      by_cases h : e.1 = k
      · rw [if_pos h, if_pos (by rw [← r1]; exact h)]; exact ⟨r1, r2, rv⟩
      · rw [if_neg h, if_neg (by rw [← r1]; exact h)]; exact ⟨r1, r2, r3⟩
  · rw [if_neg h, if_neg (by rw [← q]; exact h)]
    clear q h
    induction r with
    | nil => exact .cons ⟨rfl, rfl, rv⟩ .nil
    | cons r t ih => exact .cons r ih
theorem nPut_keys {k : NestedKey} {b : Addr} {v : V} {es : List Ent} : (nPut es k b v).map (·.1) = if (nGet es k).isSome then es.map (·.1) else es.map (·.1) ++ [k] := by
  unfold nPut
  split
  · rw [List.map_map]
    apply List.map_congr_left
    intro e _
    simp only [Function.comp_apply, nPutAt]
    split <;> rfl
  · simp
theorem nGet_mem {k : NestedKey} {es : List Ent} : (nGet es k).isSome = decide (k ∈ es.map (·.1)) := by
  apply Bool.eq_iff_iff.mpr
  unfold nGet
  rw [Option.isSome_map, List.find?_isSome, decide_eq_true_iff, List.mem_map]
  simp only [decide_eq_true_eq]
theorem paired_keys : ∀ {es : List Ent} {xs : List (NestedKey × Addr × Value)}, Paired RelE es xs → es.map (·.1) = xs.map (·.1)
  | _, _, .nil => rfl
  | _, _, .cons r t => by rw [List.map_cons, List.map_cons, r.1, paired_keys t]
theorem nPut_nodup {k : NestedKey} {b : Addr} {v : V} {es : List Ent} (h : (es.map (·.1)).Nodup) : ((nPut es k b v).map (·.1)).Nodup := by
  rw [nPut_keys]
  split
  · exact h
  · rename_i z
    rw [nGet_mem] at z
    refine List.nodup_append.mpr ⟨h, by simp, fun x hx y hy e => ?_⟩
    simp only [List.mem_singleton] at hy
    subst hy e
    exact z (decide_eq_true hx)
theorem nPut_mem {k : NestedKey} {b : Addr} {v : V} {es : List Ent} {e : Ent} (h : e ∈ nPut es k b v) : (∃ e' ∈ es, e'.1 = e.1 ∧ e'.2.1 = e.2.1) ∨ (e.1 = k ∧ e.2.1 = b) := by
  unfold nPut at h
  split at h
  · obtain ⟨e', h1, rfl⟩ := List.mem_map.mp h
    refine .inl ⟨e', h1, ?_⟩
    unfold nPutAt
    split <;> exact ⟨rfl, rfl⟩
  · rcases List.mem_append.mp h with h | h
    · exact .inl ⟨e, h, rfl, rfl⟩
    · simp only [List.mem_singleton] at h
      subst h
      exact .inr ⟨rfl, rfl⟩
theorem nPut_len {k : NestedKey} {b : Addr} {v : V} {es : List Ent} : (nPut es k b v).length ≤ es.length + 1 := by
  unfold nPut
  split <;> simp
section
variable {X : Cx} {pins : List (Addr × Obj)} {σ : L2.St} {H : Hp} {s : Shared} {a b : Addr} {es : List Ent} {k : NestedKey}
/-- the keys' tuples stand -/
def KeysAt (K : PySem.W.Frag) (H : Hp) (es : List Ent) : Prop := ∀ e ∈ es, NK K H (.ref e.2.1) e.1
theorem paired_mem {α β : Type} {F : α → β → Prop} : ∀ {l₁ : List α} {l₂ : List β} {x : β}, Paired F l₁ l₂ → x ∈ l₂ → ∃ y ∈ l₁, F y x
  | _, _, x, .nil, h => by cases h
  | _, _, x, .cons r t, h => by
    rcases List.mem_cons.mp h with rfl | h
    · exact ⟨_, List.mem_cons_self, r⟩
    · obtain ⟨y, h1, h2⟩ := paired_mem t h
      exact ⟨y, List.mem_cons_of_mem _ h1, h2⟩
theorem dn_at (I : Inv X pins σ H s) (e : Rd H a (dictN X.prog X.w a es)) (hk : KeysAt X.K H es) : ∃ xs, Paired RelE es xs ∧ s.heap.DictOfH (nestedKind X.prog X.w) a xs ∧ (a == sysModules) = false ∧ es.length ≤ sizeLine := by
  obtain ⟨⟨h1, h2, h3, h4, xs, pr, o, ds, ep, ho, hx, hd, he⟩, _, _⟩ := e.ok I.hok
  have l := pr.length
  refine ⟨xs, pr, ⟨o, ds, ep, ho, hx, hd, he, fun x hx => ?_, ?_⟩, h2, h1⟩
  · obtain ⟨y, m, q1, q2, _⟩ := paired_mem pr hx
    refine ⟨?_, ?_⟩
    · rw [← q1, ← q2]; exact nested_of I y.1 _ _ (hk y m) rfl
    · rw [← q1]; exact h3 y m
  · rw [← paired_keys pr]; exact h4
/-- a dict just so: its facts for any heap that leaves it -/
theorem dn_new {P : Program} {w : World} {H' : Hp} {h' : Heap} {es : List Ent} {xs : List (NestedKey × Addr × Value)} (z : es.length ≤ sizeLine) (hd : (a == sysModules) = false) (h3 : ∀ e ∈ es, e.1.depth ≤ 8) (h4 : (es.map (·.1)).Nodup) (pr : Paired RelE es xs)
    (dd : h'.DictOfH (nestedKind P w) a xs) : ObjOk P w H' h' a (dictN P w a es) := by
  obtain ⟨o, ds, ep, ho, hx, hdt, he, _, _⟩ := dd
  exact ⟨⟨z, hd, h3, h4, xs, pr, o, ds, ep, ho, hx, hdt, he⟩, ⟨o, ho⟩, fun h1 h2 ⟨a1, a2, a3, a4, ys, pr2, o2, ds2, ep2, ho2, r⟩ st => ⟨a1, a2, a3, a4, ys, pr2, o2, ds2, ep2, st _ ho2, r⟩⟩
structure NKey (K : PySem.W.Frag) (H : Hp) (y : V) (b : Addr) (k : NestedKey) : Prop where
  v : y = .ref b
  nk : NK K H (.ref b) k
  dp : k.depth ≤ 8
theorem NKey.is {y : V} (I : Inv X pins σ H s) (h : NKey X.K H y b k) : (nestedKind X.prog X.w).is s.heap k b := ⟨nested_of I k _ _ h.nk rfl, h.dp⟩
theorem n_room {A : Around} (hu : A.units + 9 < cLine) : (nestedKind X.prog X.w).room A.in1 := by
  show A.units + 1 + 8 < cLine
  omega
theorem n_room0 {A : Around} (hu : A.units + 9 < cLine) : (nestedKind X.prog X.w).room A := by
  show A.units + 8 < cLine
  omega
/-- y in d -/
def rInN (P : Program) (w : World) (K : PySem.W.Frag) (neg : Bool) : R2 := fun y x H Q => ∃ a es b k, x = .ref a ∧ Rd H a (dictN P w a es) ∧ KeysAt K H es ∧ NKey K H y b k ∧ Q (.bl (xor neg (nGet es k).isSome)) H
theorem op_inN (hu : X.A.units + 9 < cLine) : OpR X (compareOp .In) (rInN X.prog X.w X.K false) := by
  intro pn s σ H y x v u Q I ry rx h
  obtain ⟨a, es, b, k, rfl, e, hk, nk, q⟩ := h
  have ey := nk.v
  subst ey
  cases ry
  cases rx
  obtain ⟨xs, pr, dd, hs, hz⟩ := dn_at I e hk
  refine wpAny_in_heap (n_room hu) (nk.is I) hs dd ?_
  have z := (nget_rel (k := k) pr).isSome_eq
  rw [Option.isSome_map] at z
  rw [← z]
  refine ⟨.bl (nGet es k).isSome, H, I.tok _, rfl, ?_⟩
  rw [Bool.false_xor] at q
  exact q
theorem op_ninN (hu : X.A.units + 9 < cLine) : OpR X (compareOp .NotIn) (rInN X.prog X.w X.K true) := by
  intro pn s σ H y x v u Q I ry rx h
  obtain ⟨a, es, b, k, rfl, e, hk, nk, q⟩ := h
  have ey := nk.v
  subst ey
  cases ry
  cases rx
  obtain ⟨xs, pr, dd, hs, hz⟩ := dn_at I e hk
  refine wpAny_notIn_heap (n_room hu) (nk.is I) hs dd ?_
  have z := (nget_rel (k := k) pr).isSome_eq
  rw [Option.isSome_map] at z
  rw [← z]
  refine ⟨.bl (!(nGet es k).isSome), H, I.tok _, rfl, ?_⟩
  rw [Bool.true_xor] at q
  exact q
/-- d[y] -/
def rGetN (P : Program) (w : World) (K : PySem.W.Frag) : R2 := fun x y H Q => ∃ a es b k v, x = .ref a ∧ Rd H a (dictN P w a es) ∧ KeysAt K H es ∧ NKey K H y b k ∧ nGet es k = some v ∧ Q v H
theorem ix_dn (hu : X.A.units + 9 < cLine) : IxR X (rGetN X.prog X.w X.K) := by
  intro value slice pn s σ H x y v u Q I rx ry h hs
  obtain ⟨a, es, b, k, z, rfl, e, hk, nk, g, q⟩ := h
  have ey := nk.v
  subst ey
  cases rx
  cases ry
  obtain ⟨xs, pr, dd, hsm, hz⟩ := dn_at I e hk
  obtain ⟨w', hw, rw'⟩ := RelO.some_of (v := z) (o := (atKey xs k).map (·.2)) (by rw [← g]; exact nget_rel pr)
  obtain ⟨p, hp, hp2⟩ := Option.map_eq_some_iff.mp hw
  refine subscriptTail_builtinR (x := w') dd.typeIs slot_dict_getitem.lookup (wpAny_getItem_heap (n_room hu) (nk.is I) dd hp ?_) hs
  exact ⟨hp2, z, H, I.tok _, by rw [hp2]; exact rw', q⟩
/-- a dict that may become one with nested keys -/
inductive NDict (P : Program) (w : World) (H : Hp) (a : Addr) : List (NestedKey × Addr × V) → Prop
  | full {es : List Ent} (h : H a = some (dictN P w a es)) : NDict P w H a es
  | none : H a = some (.dK []) → NDict P w H a []
theorem ndict_at (I : Inv X pins σ H s) (e : NDict X.prog X.w H a es) (hk : KeysAt X.K H es) : ∃ xs, Paired RelE es xs ∧ s.heap.DictOfH (nestedKind X.prog X.w) a xs ∧ (a == sysModules) = false ∧ es.length ≤ sizeLine ∧ (∀ e ∈ es, e.1.depth ≤ 8) ∧ (es.map (·.1)).Nodup ∧ Mut (H a) := by
  cases e with
  | full e =>
    obtain ⟨xs, pr, dd, h1, h2⟩ := dn_at I (.inl e) hk
    obtain ⟨⟨_, _, h3, h4, _⟩, _, _⟩ := I.hok a _ e
    exact ⟨xs, pr, dd, h1, h2, h3, h4, by rw [e]; trivial⟩
  | none e =>
    obtain ⟨z, hd, vs, kv, o, ds, ep, ho, hx, hdt, h1, h2, h3⟩ := I.hok a _ e
    cases kv
    have e0 : ds.toList = [] := by
      have l := h2.length
      simpa using l
    exact ⟨[], .nil, ⟨o, ds, ep, ho, hx, hdt, by rw [e0]; rfl, fun x hx => by simp at hx, by simp⟩, hd, by simp, fun x hx => by simp at hx, by simp, by rw [e]; trivial⟩
/-- d[y] = v -/
def rSetN (P : Program) (w : World) (K : PySem.W.Frag) : TSet := fun o i v H Q => ∃ a es b k, o = .ref a ∧ NDict P w H a es ∧ KeysAt K H es ∧ NKey K H i b k ∧ es.length < sizeLine ∧ Q (upd H a (dictN P w a (nPut es k b v)))
theorem set_core {v : V} {u : Value} (I : Inv X pins σ H s) (e : NDict X.prog X.w H a es) (hk : KeysAt X.K H es) {y : V} (nk : NKey X.K H y b k) (hz : es.length < sizeLine) (rv : RelV v u) :
    ∃ xs, s.heap.DictOfH (nestedKind X.prog X.w) a xs ∧ xs.length ≤ sizeLine ∧ ∀ (h' : Heap) (t : Nat), h'.DictOfH (nestedKind X.prog X.w) a (storedH xs k b u) → Heap.SameBut a s.heap h' → Inv X pins σ (upd H a (dictN X.prog X.w a (nPut es k b v))) { s with heap := h', toks := t } := by
  obtain ⟨xs, pr, dd, h1, h2, h3, h4, mu⟩ := ndict_at I e hk
  refine ⟨xs, dd, by rw [← pr.length]; exact h2, fun h' t dd' sb => ?_⟩
  have he : ∃ q, h'.get? a = some q := let ⟨q, _, _, hq, _⟩ := dd'; ⟨q, hq⟩
  refine d_write I mu sb he (dn_new (by have := nPut_len (es := es) (k := k) (b := b) (v := v); omega) h1 (fun e he => ?_) (nPut_nodup h4) (nput_rel pr rv) dd')
  rcases nPut_mem he with ⟨e', m, q, _⟩ | ⟨q, _⟩
  · rw [← q]; exact h3 e' m
  · rw [q]; exact nk.dp
theorem set_dn (hu : X.A.units + 9 < cLine) : PSet X (rSetN X.prog X.w X.K) := by
  intro pn s σ H o i v ov iv u Q I ro ri rv h
  obtain ⟨a, es, b, k, rfl, e, hk, nk, hz, q⟩ := h
  have ey := nk.v
  subst ey
  cases ro
  cases ri
  obtain ⟨xs, dd, hx, fin⟩ := set_core I e hk nk hz rv
  exact wpAny_setItem_heap (hsz := hx) (n_room hu) (nk.is I) dd fun h' dd' sb => ⟨_, fin h' _ dd' sb, q⟩
/-- by a comprehension -/
theorem dset_dn (hu : X.A.units + 9 < cLine) {E : Value → Shared → Prop} {v y : V} {u r : Value} {Q : Unit → Shared → Prop} (I : Inv X pins σ H s) (e : NDict X.prog X.w H a es) (hk : KeysAt X.K H es) (nk : NKey X.K H y b k) (hz : es.length < sizeLine) (ry : RelV y u) (rv : RelV v r)
    (h : ∀ s', Inv X pins σ (upd H a (dictN X.prog X.w a (nPut es k b v))) s' → Q () s') : wpAny (model X.prog X.w) X.A (dictSet a u r) Q E s := by
  have ey := nk.v
  subst ey
  cases ry
  obtain ⟨xs, dd, hx, fin⟩ := set_core I e hk nk hz rv
  exact wpAny_dictSet_heap (hsz := hx) (n_room0 hu) (nk.is I) dd fun h' dd' sb => h _ (fin h' _ dd' sb)
/-- len(d) -/
theorem call_len_dn : CallR X (.builtin "len") (fun xs H Q => ∃ a es, xs = [.ref a] ∧ Rd H a (dictN X.prog X.w a es) ∧ KeysAt X.K H es ∧ Q (.int es.length) H) := by
  intro pn s σ H xs us Q I r h
  obtain ⟨a, es, rfl, e, hk, q⟩ := h
  obtain ⟨u, rfl, rx⟩ := vals1 r
  cases rx
  obtain ⟨ys, pr, dd, h1, h2⟩ := dn_at I e hk
  have hl : es.length = ys.length := pr.length
  refine call_len_dictH h1 dd (by rw [← hl]; rw [sizeLine_eq] at h2; omega) ?_
  rw [← hl]
  exact ⟨.int es.length, H, I.tok _, ⟨_, rfl⟩, q⟩
end
end WW
set_option maxHeartbeats 1000000
namespace WW
open PySem PySem.Spec PyProof.Rows L2
def Itn (P : Program) (w : World) (d : Addr) (o : Obj) (es : List Ent) : It :=
  ⟨fun i H => H d = some (.frz o (dictN P w d es)) ∧ i < es.length, fun i H x H' => H' = H ∧ ∃ e, es[i]? = some e ∧ x = .ref e.2.1, fun i H => H d = some (.frz o (dictN P w d es)) ∧ es.length ≤ i⟩
theorem paired_get {α β : Type} {F : α → β → Prop} : ∀ {l₁ : List α} {l₂ : List β} {i : Nat} {x : α}, Paired F l₁ l₂ → l₁[i]? = some x → ∃ y, l₂[i]? = some y ∧ F x y
  | _, _, i, x, .nil, h => by simp at h
  | _, _, 0, x, .cons r t, h => by simp at h; subst h; exact ⟨_, rfl, r⟩
  | _, _, i + 1, x, .cons r t, h => by
    obtain ⟨y, h1, h2⟩ := paired_get (i := i) (x := x) t (by simpa using h)
    exact ⟨y, by simpa using h1, h2⟩
theorem frzN {X : Cx} {pins : List (Addr × Obj)} {σ : L2.St} {H : Hp} {s : Shared} {d : Addr} {o : Obj} {es : List Ent} (I : Inv X pins σ H s) (h : H d = some (.frz o (dictN X.prog X.w d es))) :
    (d == sysModules) = false ∧ s.heap.get? d = some o ∧ o.ExactDict ∧ ∃ (ds : Array DictEntry) (ep : Nat), o.data = .dict ds ep ∧ ds.size = es.length ∧ ∀ (i : Nat) (e : Ent), es[i]? = some e → ∃ en : DictEntry, ds[i]? = some en ∧ en.key = .ref e.2.1 := by
  obtain ⟨hd, ⟨h1, h2, h3, h4, xs, pr, o', ds, ep, ho, hx, hdt, he⟩, _, _⟩ := I.hok d _ h
  rw [hd] at ho
  cases ho
  refine ⟨h2, hd, hx, ds, ep, hdt, ?_, fun i e hi => ?_⟩
  · have l1 : ds.size = xs.length := size_of_entries he
    have l2 : es.length = xs.length := pr.length
    omega
  · obtain ⟨y, hy, q1, q2, q3⟩ := paired_get pr hi
    have z := entry_at he i
    rw [hy] at z
    exact ⟨_, z, by rw [q2]; rfl⟩
theorem turn_dn {P : Program} {w : World} {K : PySem.W.Frag} {tg : Expr} {d : Addr} {o : Obj} {ds : Array DictEntry} {ep : Nat} {es : List Ent} (it : Addr) (hod : o.data = .dict ds ep) : Turn P w K tg (Itn P w d o es) [it] it (fun i h => h.IsKeyIter it d i es.length ep) where
  mem := by simp
  obj := fun i h st b hb => by
    have z : b = it := by simpa using hb
    subst z
    obtain ⟨oi, z, cc, dd⟩ := st
    exact ⟨oi, z, fun v y => by rw [dd] at y; cases y⟩
  keep := fun i h h' st kp => st.at fun oi z => kp it (by simp) oi z
  item := by
    intro X hP hw hK hc i pins s σ H E I hf st hg
    subst hP hw hK
    obtain ⟨hd, hi⟩ := hg
    obtain ⟨f0, f1, f2, f3, f4, f5⟩ := hf it (by simp)
    obtain ⟨g1, g2, g3, ds', ep', g4, g5, ent⟩ := frzN I hd
    obtain ⟨rfl, rfl⟩ := dict_ep hod g4
    have he : es[i]? = some es[i] := List.getElem?_eq_getElem hi
    obtain ⟨en, hen, hkey⟩ := ent i _ he
    refine next_key_item st g2 g4 g5 hen fun h' st' sb => ?_
    have I1 : Inv X pins σ H { s with heap := h' } := I.turned (t' := s.toks) (fun b ob hb z => (sb.2 b hb).trans z) f0 f1 f3 f4 f5
    obtain ⟨oi, z, cc, dd⟩ := id st'
    exact ⟨en.key, rfl, go_of (s := { s with heap := h' }) z cc dd (by decide) ⟨.ref (es[i]).2.1, H, I1, hkey, ⟨rfl, _, he, rfl⟩, st', fun b hb => (hf b hb).1⟩⟩
  done := by
    intro X hP hw hK hc i pins s σ H E I hf st hg
    subst hP hw hK
    obtain ⟨hd, hi⟩ := hg
    obtain ⟨f0, f1, f2, f3, f4, f5⟩ := hf it (by simp)
    obtain ⟨g1, g2, g3, ds', ep', g4, g5, ent⟩ := frzN I hd
    obtain ⟨rfl, rfl⟩ := dict_ep hod g4
    exact next_key_end (I.ok.hd hc) st g2 g4 g5 hi fun h' eb => ⟨rfl, I.turned (t' := s.toks) (fun b ob hb z => eb b ob hb z) f0 f1 f3 f4 f5⟩
  self := fun A i s Q E st h => wpAny_pyIter_keyiter st h
section
variable {X : Cx} {tg a : Expr} {pos p : Pos}
/-- a list, a tuple, a dict that is held -/
theorem pi_any {tl : TE} (hl : PE X a tl) : PI X tg a (fun σ H R => tl σ H fun x H1 => ∃ q, x = .ref q ∧ (((∃ xs, SqL X.K H1 q xs) ∧ R (Itl X.K q) H1) ∨ ((∃ xs, SqT X.K H1 q xs) ∧ R (Itt X.K q) H1) ∨
    (∃ o kvs, H1 q = some (.frz o (.dK kvs)) ∧ R (Itk q o kvs) H1) ∨ (∃ o es, H1 q = some (.frz o (dictN X.prog X.w q es)) ∧ R (Itn X.prog X.w q o es) H1))) := by
  refine ⟨fun pn st σ H R I hh => ?_⟩
  refine thn (hl.run pn st σ H _ I hh) fun v s1 ⟨x, H1, I1, r1, q, ex, alt⟩ => ?_
  subst ex
  cases r1
  have own : ∀ b ∈ [s1.heap.objs.size], FpOk X pn H1 b := fun b hb => by
    rw [List.mem_singleton.mp hb]
    exact I1.fpOk (Nat.le_refl _) (I1.hok.fresh (Nat.le_refl _))
  rcases alt with ⟨⟨xs, sq⟩, z⟩ | ⟨⟨xs, sq⟩, z⟩ | ⟨o, kvs, hd, z⟩ | ⟨o, es, hd, z⟩
  · obtain ⟨its, rv, il, hz⟩ := I1.list sq
    exact wpAny_pyIter_list il.isList ⟨s1.heap.objs.size, [s1.heap.objs.size], _, _, H1, rfl, I1.kept (t' := s1.toks) fun b o e => Heap.get?_push_of_some _ e, turn_list q _, ⟨_, Heap.get?_push_size _ rfl, rfl, rfl⟩, own, z⟩
  · obtain ⟨its, rv, il, hz⟩ := I1.tuple sq
    exact wpAny_pyIter_tuple (show s1.heap.IsTuple q its.toArray from il) ⟨s1.heap.objs.size, [s1.heap.objs.size], _, _, H1, rfl, I1.kept (t' := s1.toks) fun b o e => Heap.get?_push_of_some _ e, turn_tuple q _, ⟨_, Heap.get?_push_size _ rfl, rfl, rfl⟩, own, z⟩
  · obtain ⟨g1, g2, g3, ds, ep, vs, g4, g5, _⟩ := I1.frzK hd
    refine iter_keys g1 g2 g3 g4 (pi_one (tk := s1.toks) I1 _ (turn_keys _ g4) ⟨_, Heap.get?_push_size _ rfl, rfl, ?_⟩ z)
    rw [g5] <;> rfl
  · obtain ⟨g1, g2, g3, ds, ep, g4, g5, _⟩ := frzN I1 hd
    refine iter_keys g1 g2 g3 g4 (pi_one (tk := s1.toks) I1 _ (turn_dn _ g4) ⟨_, Heap.get?_push_size _ rfl, rfl, ?_⟩ z)
    rw [g5] <;> rfl
end
def isStrInt : D → Bool
  | .int _ => true
  | .str _ => true
  | _ => false
def isTupKey : D → Bool
  | .tup ds => (match toNK (.tup ds) with
    | some k => decide (k.depth ≤ 8)
    | none => false)
  | _ => false
def keyOk (ks : List D) (k : D) : Bool := (isStrInt k && ks.all isStrInt) || (isTupKey k && ks.all isTupKey)
def dgetD : List D → List D → D → Option D
  | k' :: ks, v :: vs, k => if eqB k' k = true then some v else dgetD ks vs k
  | _, _, _ => none
def inM (neg : Bool) (x : D) : D → M D
  | .dct ks _ => if keyOk ks x then M.ret (.bl (xor neg (ks.any fun z => eqB z x))) else M.fail
  | y => inM0 neg x y
def ixM : D → D → M D
  | .dct ks vs, k => if keyOk ks k then M.ofO (dgetD ks vs k) else M.fail
  | x, i => ixM0 x i
def lenM : D → M D
  | .dct ks _ => M.ret (.int ks.length)
  | x => lenM0 x
def seqM : D → M (List D)
  | .dct ks _ => M.ret ks
  | x => seqM0 x
def iSeq (f : Ex) : Sr := fun ρ => f ρ >>= seqM
section
variable {c : Cfg} {L : List (List Addr)} {G H : Hp}
theorem Sub.frz (s : Sub G H) {a : Addr} {o : Obj} {u : HO} (h : G a = some (.frz o u)) : H a = some (.frz o u) := by
  rcases s a _ h with z | ⟨z, _⟩
  · exact z
  · exact z.elim
/-- a dict with int or text keys, by values -/
theorem dk_get {kvs : List (Key × V)} {ks vs : List D} {k : Key} {d : D} (h1 : RepL c L G (kvs.map fun p => kV p.1) ks) (h2 : RepL c L G (kvs.map (·.2)) vs) (hd : Rep c L G (kV k) d) :
    (ks.any fun z => eqB z d) = (valV kvs k).isSome ∧ ∀ y, dgetD ks vs d = some y → ∃ v, valV kvs k = some v ∧ Rep c L G v y := by
  have key : ∀ {k' : Key} {d' : D}, Rep c L G (kV k') d' → eqB d' d = decide (k' = k) := fun {k' d'} r => by
    cases k' with
    | inl i =>
      cases r
      cases k with
      | inl j =>
        cases hd
        simp only [eqB]
        by_cases h : i = j
        · subst h; simp
        · have : ¬ (Sum.inl i : Key) = Sum.inl j := fun z => h (by injection z)
          simp [h, this]
      | inr x => cases hd; rfl
    | inr z =>
      cases r
      cases k with
      | inl j => cases hd; rfl
      | inr x =>
        cases hd
        simp only [eqB]
        by_cases h : z = x
        · subst h; simp
        · have : ¬ (Sum.inr z : Key) = Sum.inr x := fun y => h (by injection y)
          have h2 : (z == x) = false := by cases q : z == x with | false => rfl | true => exact absurd (eq_of_beq q) h
          rw [h2]; simp [this]
  induction kvs generalizing ks vs with
  | nil => cases h1; cases h2; exact ⟨rfl, fun y h => by cases h⟩
  | cons p kvs ih =>
    cases h1 with
    | cons r1 t1 =>
      cases h2 with
      | cons r2 t2 =>
        obtain ⟨i1, i2⟩ := ih t1 t2
        have e := key r1
        by_cases h : p.1 = k
        · rw [decide_eq_true h] at e
          refine ⟨by rw [List.any_cons, e, valV_pos h]; rfl, fun y hy => ?_⟩
          unfold dgetD at hy
          rw [if_pos e] at hy
          cases hy
          exact ⟨_, valV_pos h, r2⟩
        · rw [decide_eq_false h] at e
          refine ⟨by rw [List.any_cons, e, valV_neg h, i1]; rfl, fun y hy => ?_⟩
          unfold dgetD at hy
          rw [if_neg (by rw [e]; simp)] at hy
          rw [valV_neg h]
          exact i2 y hy
theorem dn_get {es : List Ent} {ks vs : List D} {k : NestedKey} {d : D} (h1 : RepL c L G (es.map fun e => V.ref e.2.1) ks) (hk : ks.map toNK = es.map fun e => some e.1) (h2 : RepL c L G (es.map (·.2.2)) vs) (hd : toNK d = some k) :
    (ks.any fun z => eqB z d) = (nGet es k).isSome ∧ ∀ y, dgetD ks vs d = some y → ∃ v, nGet es k = some v ∧ Rep c L G v y := by
  induction es generalizing ks vs with
  | nil => cases h1; cases h2; exact ⟨rfl, fun y h => by cases h⟩
  | cons p es ih =>
    cases h1 with
    | @cons _ _ d' ds r1 t1 =>
      cases h2 with
      | cons r2 t2 =>
        rw [List.map_cons, List.map_cons] at hk
        injection hk with hk1 hk2
        obtain ⟨i1, i2⟩ := ih t1 hk2 t2
        have e := eqB_nk d' d p.1 k hk1 hd
        have gp : p.1 = k → nGet (p :: es) k = some p.2.2 := fun h => by simp [nGet, List.find?_cons, h]
        have gn : ¬ p.1 = k → nGet (p :: es) k = nGet es k := fun h => by simp [nGet, List.find?_cons, h]
        by_cases h : p.1 = k
        · rw [decide_eq_true h] at e
          refine ⟨by rw [List.any_cons, e, gp h]; rfl, fun y hy => ?_⟩
          unfold dgetD at hy
          rw [if_pos e] at hy
          cases hy
          exact ⟨_, gp h, r2⟩
        · rw [decide_eq_false h] at e
          refine ⟨by rw [List.any_cons, e, gn h, i1]; rfl, fun y hy => ?_⟩
          unfold dgetD at hy
          rw [if_neg (by rw [e]; simp)] at hy
          rw [gn h]
          exact i2 y hy
theorem keys_at (s : Sub G H) {es : List Ent} {ks : List D} (h1 : RepL c L G (es.map fun e => V.ref e.2.1) ks) (hk : ks.map toNK = es.map fun e => some e.1) : KeysAt c.K H es := by
  induction es generalizing ks with
  | nil => intro e he; cases he
  | cons p es ih =>
    cases h1 with
    | @cons _ _ d' ds r1 t1 =>
      rw [List.map_cons, List.map_cons] at hk
      injection hk with hk1 hk2
      intro e he
      rcases List.mem_cons.mp he with rfl | he
      · exact rep_nk s d' _ _ r1 hk1
      · exact ih t1 hk2 e he
theorem isTup_key {d : D} (h : isTupKey d = true) : ∃ ds k, d = .tup ds ∧ toNK d = some k ∧ k.depth ≤ 8 := by
  cases d with
  | tup ds =>
    simp only [isTupKey] at h
    cases q : toNK (.tup ds) with
    | none => rw [q] at h; cases h
    | some k => rw [q] at h; exact ⟨ds, k, rfl, rfl, of_decide_eq_true h⟩
  | _ => cases h
theorem tup_nkey (s : Sub G H) {v : V} {d : D} {k : NestedKey} (r : Rep c L G v d) (hd : ∃ ds, d = .tup ds) (hk : toNK d = some k) (dp : k.depth ≤ 8) : ∃ b, NKey c.K H v b k := by
  obtain ⟨ds, rfl⟩ := hd
  have n := rep_nk s _ _ _ r hk
  cases r with
  | @tup b _ _ _ _ _ => exact ⟨b, rfl, n, dp⟩
theorem si_key {v : V} {d : D} (r : Rep c L G v d) (h : isStrInt d = true) : ∃ k : Key, v = kV k := by
  cases r with
  | int i => exact ⟨.inl i, rfl⟩
  | str s _ => exact ⟨.inr s, rfl⟩
  | _ => cases h
end
end WW
set_option maxHeartbeats 1000000
namespace WW
open PySem PySem.Spec PyProof.Rows L2
section
variable {X : Cx} {pins : List (Addr × Obj)} {σ : L2.St} {H : Hp} {s : Shared} {a : Addr}
theorem dk0_at (I : Inv X pins σ H s) (e : Rd H a (.dK [])) : s.heap.DictOfH (nestedKind X.prog X.w) a [] ∧ (a == sysModules) = false := by
  obtain ⟨z, hd, vs, kv, o, ds, ep, ho, hx, hdt, h1, h2, h3⟩ := e.ok I.hok
  cases kv
  have e0 : ds.toList = [] := by
    have l := h2.length
    simpa using l
  exact ⟨⟨o, ds, ep, ho, hx, hdt, by rw [e0]; rfl, fun x hx => by simp at hx, by simp⟩, hd⟩
/-- y in d, any dict -/
def rInA (P : Program) (w : World) (K : PySem.W.Frag) (neg : Bool) : R2 := fun y x H Q =>
  (∃ a kvs k, x = .ref a ∧ Rd H a (.dK kvs) ∧ y = kV k ∧ Q (.bl (xor neg (valV kvs k).isSome)) H) ∨ (∃ a b k, x = .ref a ∧ Rd H a (.dK []) ∧ NKey K H y b k ∧ Q (.bl neg) H) ∨ rInN P w K neg y x H Q
theorem op_inA (hu : X.A.units + 9 < cLine) : OpR X (compareOp .In) (rInA X.prog X.w X.K false) := by
  intro pn s σ H y x v u Q I ry rx h
  rcases h with ⟨a, kvs, k, rfl, e, ey, q⟩ | ⟨a, b, k, rfl, e, nk, q⟩ | h
  · cases rx
    rw [Bool.false_xor] at q
    exact d_in (by omega) I (.inl ⟨kvs, k, e, ey, rfl⟩) ry fun s' I' => ⟨.bl (valV kvs k).isSome, H, I', rfl, q⟩
  · cases rx
    have ey := nk.v
    subst ey
    cases ry
    obtain ⟨dd, hs⟩ := dk0_at I e
    exact wpAny_in_heap (n_room hu) (nk.is I) hs dd ⟨.bl false, H, I.tok _, rfl, q⟩
  · exact op_inN hu pn s σ H y x v u Q I ry rx h
theorem op_ninA (hu : X.A.units + 9 < cLine) : OpR X (compareOp .NotIn) (rInA X.prog X.w X.K true) := by
  intro pn s σ H y x v u Q I ry rx h
  rcases h with ⟨a, kvs, k, rfl, e, ey, q⟩ | ⟨a, b, k, rfl, e, nk, q⟩ | h
  · cases rx
    rw [Bool.true_xor] at q
    exact d_notIn (by omega) I (.inl ⟨kvs, k, e, ey, rfl⟩) ry fun s' I' => ⟨.bl (!(valV kvs k).isSome), H, I', rfl, q⟩
  · cases rx
    have ey := nk.v
    subst ey
    cases ry
    obtain ⟨dd, hs⟩ := dk0_at I e
    exact wpAny_notIn_heap (n_room hu) (nk.is I) hs dd ⟨.bl true, H, I.tok _, rfl, q⟩
  · exact op_ninN hu pn s σ H y x v u Q I ry rx h
theorem ix_dk (hu : X.A.units + 1 < cLine) : IxR X (fun x y H Q => ∃ a kvs k v, x = .ref a ∧ Rd H a (.dK kvs) ∧ y = kV k ∧ valV kvs k = some v ∧ Q v H) := by
  intro value slice pn s σ H x y v u Q I rx ry h hs
  obtain ⟨a, kvs, k, z, rfl, e, ey, g, q⟩ := h
  cases rx
  subst ey
  obtain ⟨zl, hd, vs, rel, dd⟩ := dk_rd I.hok e
  obtain ⟨w', hw, rw'⟩ := RelO.some_of (v := z) (o := valueAt vs k) (by rw [← g]; exact rel.val k)
  exact subscriptTail_builtinR (x := w') dd.typeIs slot_dict_getitem.lookup (wpAny_getItem_of (kV_is ry) dd.mapOf hw ⟨rfl, z, H, I.tok _, rw', q⟩) hs
theorem call_len_dk : CallR X (.builtin "len") (fun xs H Q => ∃ a kvs, xs = [.ref a] ∧ Rd H a (.dK kvs) ∧ Q (.int kvs.length) H) := by
  intro pn s σ H xs us Q I r h
  obtain ⟨a, kvs, rfl, e, q⟩ := h
  obtain ⟨u, rfl, rx⟩ := vals1 r
  cases rx
  exact d_len I e fun t s' I' => ⟨.int kvs.length, H, I', ⟨t, rfl⟩, q⟩
end
section
variable {c : Cfg}
theorem op2_inA (neg : Bool) : Op2 c (fun x y H Q => rInS c.K neg x y H Q ∨ rInA c.P c.w c.K neg x y H Q) (inM neg) := by
  intro e W L T G H σ ρ x y a b Q S rx ry p
  cases b with
  | dct ks vs =>
    simp only [inM] at p
    by_cases z : keyOk ks a = true
    · rw [if_pos z] at p
      have fin := p.val S (.bl _)
      refine .inr ?_
      cases ry with
      | @dk q ob kvs _ _ h1 h2 h3 h4 =>
        have hd := S.subS.frz h1
        unfold keyOk at z
        rcases Bool.or_eq_true_iff.mp z with z | z
        · obtain ⟨k, rfl⟩ := si_key rx (Bool.and_eq_true_iff.mp z).1
          rw [(dk_get h2 h3 rx).1] at fin
          exact .inl ⟨q, kvs, k, rfl, .inr ⟨ob, hd⟩, rfl, fin⟩
        · obtain ⟨z1, z2⟩ := Bool.and_eq_true_iff.mp z
          obtain ⟨ds, k, e1, e2, dp⟩ := isTup_key z1
          obtain ⟨bb, nk⟩ := tup_nkey S.subS rx ⟨ds, e1⟩ e2 dp
          cases kvs with
          | nil =>
            cases h2
            rw [show (List.any [] fun z => eqB z a) = false from rfl, Bool.xor_false] at fin
            exact .inr (.inl ⟨q, bb, k, rfl, .inr ⟨ob, hd⟩, nk, fin⟩)
          | cons p0 kvs =>
            cases h2 with
            | @cons _ _ d' ds' r1 t1 =>
              have := (List.all_eq_true.mp z2) d' List.mem_cons_self
              obtain ⟨_, _, e3, _⟩ := isTup_key this
              subst e3
              obtain ⟨k0, v0⟩ := p0
              cases k0 <;> cases r1
      | @dn q ob es _ _ h1 h0 h2 h3 h4 h5 =>
        have hd := S.subS.frz h1
        unfold keyOk at z
        rcases Bool.or_eq_true_iff.mp z with z | z
        · obtain ⟨z1, z2⟩ := Bool.and_eq_true_iff.mp z
          cases es with
          | nil => exact absurd rfl h0
          | cons p0 es =>
            cases h2 with
            | @cons _ _ d' ds' r1 t1 =>
              have z3 := (List.all_eq_true.mp z2) d' List.mem_cons_self
              cases r1 <;> cases z3
        · obtain ⟨z1, z2⟩ := Bool.and_eq_true_iff.mp z
          obtain ⟨ds, k, e1, e2, dp⟩ := isTup_key z1
          obtain ⟨bb, nk⟩ := tup_nkey S.subS rx ⟨ds, e1⟩ e2 dp
          rw [(dn_get h2 h3 h4 e2).1] at fin
          exact .inr (.inr ⟨q, es, bb, k, rfl, .inr ⟨ob, hd⟩, keys_at S.subS h2 h3, nk, fin⟩)
    · rw [if_neg z] at p; exact p.bad
  | _ => exact .inl (op2_in neg e W L T G H σ ρ x y a _ Q S rx ry p)
theorem op2_ixA : Op2 c (fun x y H Q => (rIxL c.K x y H Q ∨ rIxT c.K x y H Q) ∨ (∃ a kvs k v, x = .ref a ∧ Rd H a (.dK kvs) ∧ y = kV k ∧ valV kvs k = some v ∧ Q v H) ∨ rGetN c.P c.w c.K x y H Q) ixM := by
  intro e W L T G H σ ρ x y a b Q S rx ry p
  cases a with
  | dct ks vs =>
    simp only [ixM] at p
    by_cases z : keyOk ks b = true
    · rw [if_pos z] at p
      cases g : dgetD ks vs b with
      | none => rw [g] at p; exact p.bad
      | some r =>
        rw [g] at p
        refine .inr ?_
        cases rx with
        | @dk q ob kvs _ _ h1 h2 h3 h4 =>
          have hd := S.subS.frz h1
          unfold keyOk at z
          rcases Bool.or_eq_true_iff.mp z with z | z
          · obtain ⟨k, rfl⟩ := si_key ry (Bool.and_eq_true_iff.mp z).1
            obtain ⟨v, hv, rv⟩ := (dk_get h2 h3 ry).2 r g
            exact .inl ⟨q, kvs, k, v, rfl, .inr ⟨ob, hd⟩, rfl, hv, p.val S rv⟩
          · obtain ⟨z1, z2⟩ := Bool.and_eq_true_iff.mp z
            cases kvs with
            | nil => cases h2; cases g
            | cons p0 kvs =>
              cases h2 with
              | @cons _ _ d' ds' r1 t1 =>
                have := (List.all_eq_true.mp z2) d' List.mem_cons_self
                obtain ⟨_, _, e3, _⟩ := isTup_key this
                subst e3
                obtain ⟨k0, v0⟩ := p0
                cases k0 <;> cases r1
        | @dn q ob es _ _ h1 h0 h2 h3 h4 h5 =>
          have hd := S.subS.frz h1
          unfold keyOk at z
          rcases Bool.or_eq_true_iff.mp z with z | z
          · obtain ⟨z1, z2⟩ := Bool.and_eq_true_iff.mp z
            cases es with
            | nil => exact absurd rfl h0
            | cons p0 es =>
              cases h2 with
              | @cons _ _ d' ds' r1 t1 =>
                have z3 := (List.all_eq_true.mp z2) d' List.mem_cons_self
                cases r1 <;> cases z3
          · obtain ⟨z1, z2⟩ := Bool.and_eq_true_iff.mp z
            obtain ⟨ds, k, e1, e2, dp⟩ := isTup_key z1
            obtain ⟨bb, nk⟩ := tup_nkey S.subS ry ⟨ds, e1⟩ e2 dp
            obtain ⟨v, hv, rv⟩ := (dn_get h2 h3 h4 e2).2 r g
            exact .inr ⟨q, es, bb, k, v, rfl, .inr ⟨ob, hd⟩, keys_at S.subS h2 h3, nk, hv, p.val S rv⟩
    · rw [if_neg z] at p; exact p.bad
  | _ => exact .inl (op2_ix e W L T G H σ ρ x y _ b Q S rx ry p)
theorem cd_lenA : CallD c (fun xs H Q => (∃ p ys, xs = [.ref p] ∧ (SqL c.K H p ys ∨ SqT c.K H p ys) ∧ Q (.int ys.length) H) ∨ (∃ a kvs, xs = [.ref a] ∧ Rd H a (.dK kvs) ∧ Q (.int kvs.length) H) ∨ (∃ a es, xs = [.ref a] ∧ Rd H a (dictN c.P c.w a es) ∧ KeysAt c.K H es ∧ Q (.int es.length) H)) (F1 lenM) := by
  intro e W L T G H σ ρ vs ds Q S r p
  cases r with
  | nil => exact p.bad
  | cons r1 r2 =>
    cases r2 with
    | cons _ _ => exact p.bad
    | nil =>
      cases r1 with
      | @dk q ob kvs ks vs h1 h2 h3 h4 =>
        have hd := S.subS.frz h1
        have q1 := p.val S (.int _)
        have l := h2.length
        rw [List.length_map] at l
        rw [← l] at q1
        exact .inr (.inl ⟨q, kvs, rfl, .inr ⟨ob, hd⟩, q1⟩)
      | @dn q ob es ks vs h1 h0 h2 h3 h4 h5 =>
        have hd := S.subS.frz h1
        have q1 := p.val S (.int _)
        have l := h2.length
        rw [List.length_map] at l
        rw [← l] at q1
        exact .inr (.inr ⟨q, es, rfl, .inr ⟨ob, hd⟩, keys_at S.subS h2 h3, q1⟩)
      | @lst a vs ds h1 h2 h3 =>
        refine .inl ⟨a, vs, rfl, .inl (.of (S.subS.lst h1)), ?_⟩
        have q := p.val S (.int _)
        rw [h2.length]; exact q
      | @tup a vs ds h1 h2 h3 =>
        refine .inl ⟨a, vs, rfl, .inr (S.subS.sqT h1), ?_⟩
        have q := p.val S (.int _)
        rw [h2.length]; exact q
      | _ => exact p.bad
end
section
variable {X : Cx} {c : Cfg} {W : WX} {k : Nat} {tg a b : Expr} {fa fb : Ex} {pos p : Pos}
theorem Ctx.u9 (h : Ctx X c W k) : X.A.units + 9 < cLine := by have := h.units; omega
theorem opInA (h : Ctx X c W k) : OpR X (compareOp .In) (fun x y H Q => rInS c.K false x y H Q ∨ rInA c.P c.w c.K false x y H Q) := by
  rw [← h.hP, ← h.hw, ← h.hK]; exact OpR.or (op_inS h.units) (op_inA h.u9)
theorem opNinA (h : Ctx X c W k) : OpR X (compareOp .NotIn) (fun x y H Q => rInS c.K true x y H Q ∨ rInA c.P c.w c.K true x y H Q) := by
  rw [← h.hP, ← h.hw, ← h.hK]; exact OpR.or (op_notInS h.units) (op_ninA h.u9)
theorem de_in (h : Ctx X c W k) (ha : PE X a (tD c W fa)) (hb : PE X b (tD c W fb)) (hm : behindInMarks .In b = false := by rfl) : PE X (.Compare a [.In] [b] pos) (tD c W (d2 (inM false) fa fb)) := de_cmp (opInA h) (op2_inA false) hm ha hb
theorem dt_in (h : Ctx X c W k) (ha : PE X a (tD c W fa)) (hb : PE X b (tD c W fb)) (hm : behindInMarks .In b = false := by rfl) : PT X (.Compare a [.In] [b] pos) (tT c W (tVal (d2 (inM false) fa fb))) := dt_cmp (opInA h) (op2_inA false) hm ha hb
theorem de_nin (h : Ctx X c W k) (ha : PE X a (tD c W fa)) (hb : PE X b (tD c W fb)) (hm : behindInMarks .NotIn b = false := by rfl) : PE X (.Compare a [.NotIn] [b] pos) (tD c W (d2 (inM true) fa fb)) := de_cmp (opNinA h) (op2_inA true) hm ha hb
theorem dt_nin (h : Ctx X c W k) (ha : PE X a (tD c W fa)) (hb : PE X b (tD c W fb)) (hm : behindInMarks .NotIn b = false := by rfl) : PT X (.Compare a [.NotIn] [b] pos) (tT c W (tVal (d2 (inM true) fa fb))) := dt_cmp (opNinA h) (op2_inA true) hm ha hb
theorem de_ix (h : Ctx X c W k) (ha : PE X a (tD c W fa)) (hb : PE X b (tD c W fb)) (hs : PlainIx b := by exact fun _ _ => rfl) : PE X (.Subscript a b pos) (tD c W (d2 ixM fa fb)) := by
  refine (pe_ix (IxR.or (IxR.or ix_list ix_tup) (IxR.or (ix_dk (by have := h.u9; omega)) (ix_dn h.u9))) ha hb hs).imp fun σ H Q q => (tG.two (R1 := Rep c) (R1' := Rep c) Rep.up q).mono fun v H1 q1 => q1.mono fun u H2 q2 => ?_
  obtain ⟨e, L, T, G, ρ, a, b, S, r1, r2, p⟩ := q2
  rw [h.hK, h.hP, h.hw]
  exact op2_ixA e W L T G H2 σ ρ v u a b Q S r1 r2 p
theorem de_len (h : Ctx X c W k) (ha : PE X a (tD c W fa)) (ns : NS a := by intro _ _; rfl) (hg : Gl X "len" := by rfl) : PE X (.Call (.Name "len" p) [a] [] pos) (tD c W (dCall (F1 lenM) [fa])) := by
  refine (pe_callB (CallR.orr call_len_seq (CallR.orr call_len_dk call_len_dn)) hg h.bl.len PySem.boot_len (da_cons ha da_nil (ns _ _)) (he := ns _ _)).imp fun σ H Q q => ?_
  rw [h.hK, h.hP, h.hw]
  exact call_end cd_lenA q
theorem wk_dk {L : List (List Addr)} {G : Hp} {q : Addr} {ob : Obj} {kvs : List (Key × V)} {ks : List D} (h : G q = some (.frz ob (.dK kvs))) (r : RepL c L G (kvs.map fun p => kV p.1) ks) : Wk c L G (Itk q ob kvs) ks := by
  intro e L' T' G' H' σ ρ h1 h2 S i hi
  have hd := S.subS.frz (h2 _ _ h)
  have l := r.length
  rw [List.length_map] at l
  refine ⟨fun x hx => ?_, fun hx => ⟨hd, by rw [l]; exact List.getElem?_eq_none_iff.mp hx⟩⟩
  obtain ⟨v, hv, rv⟩ := r.get hx
  rw [List.getElem?_map] at hv
  obtain ⟨p, hp, e1⟩ := Option.map_eq_some_iff.mp hv
  refine ⟨⟨hd, (List.getElem?_eq_some_iff.mp hp).1⟩, fun u H'' y => ?_⟩
  obtain ⟨rfl, k, v2, hk, rfl⟩ := y
  rw [hp] at hk
  cases hk
  refine ⟨G', Same.refl _, S, ?_⟩
  subst e1
  exact rv.up h1 h2
theorem wk_dn {L : List (List Addr)} {G : Hp} {q : Addr} {ob : Obj} {es : List Ent} {ks : List D} (h : G q = some (.frz ob (dictN c.P c.w q es))) (r : RepL c L G (es.map fun e => V.ref e.2.1) ks) : Wk c L G (Itn c.P c.w q ob es) ks := by
  intro e L' T' G' H' σ ρ h1 h2 S i hi
  have hd := S.subS.frz (h2 _ _ h)
  have l := r.length
  rw [List.length_map] at l
  refine ⟨fun x hx => ?_, fun hx => ⟨hd, by rw [l]; exact List.getElem?_eq_none_iff.mp hx⟩⟩
  obtain ⟨v, hv, rv⟩ := r.get hx
  rw [List.getElem?_map] at hv
  obtain ⟨p, hp, e1⟩ := Option.map_eq_some_iff.mp hv
  refine ⟨⟨hd, (List.getElem?_eq_some_iff.mp hp).1⟩, fun u H'' y => ?_⟩
  obtain ⟨rfl, p2, hk, rfl⟩ := y
  rw [hp] at hk
  cases hk
  refine ⟨G', Same.refl _, S, ?_⟩
  subst e1
  exact rv.up h1 h2
theorem di_seq (h : Ctx X c W k) (ha : PE X a (tD c W fa)) : PI X tg a (tI c W (iSeq fa)) := by
  refine (pi_any ha).imp fun σ H R q => (src_end (R0 := Rep c) (F := seqM) q).mono fun v H1 q1 => ?_
  obtain ⟨e, L, T, G, ρ, d, S, r, p⟩ := q1
  rw [h.hK, h.hP, h.hw]
  cases r with
  | @lst a vs ds h1 h2 h3 => exact ⟨a, rfl, .inl ⟨⟨vs, .of (S.subS.lst h1)⟩, p _ L G H1 (LE.refl _) (Same.refl _) S (wk_list h1 h2) h3⟩⟩
  | @tup a vs ds h1 h2 h3 => exact ⟨a, rfl, .inr (.inl ⟨⟨vs, S.subS.sqT h1⟩, p _ L G H1 (LE.refl _) (Same.refl _) S (wk_tup h1 h2) h3⟩)⟩
  | @dk q ob kvs ks vs h1 h2 h3 h4 => exact ⟨q, rfl, .inr (.inr (.inl ⟨ob, kvs, S.subS.frz h1, p _ L G H1 (LE.refl _) (Same.refl _) S (wk_dk h1 h2) (by have l := h2.length; rw [List.length_map] at l; omega)⟩))⟩
  | @dn q ob es ks vs h1 h0 h2 h3 h4 h5 => exact ⟨q, rfl, .inr (.inr (.inr ⟨ob, es, S.subS.frz h1, p _ L G H1 (LE.refl _) (Same.refl _) S (wk_dn h1 h2) (by have l := h2.length; rw [List.length_map] at l; omega)⟩))⟩
  | _ => exact False.elim p
end
end WW
set_option maxHeartbeats 2000000
namespace WW
open PySem PySem.Spec PyProof.Rows L2
abbrev dcx (kx vx t0 i0 t1 i1 : Expr) (f0 f1 : List Expr) (sc : Scope) (ps : Pos) : Expr := .DictComp kx vx [⟨t0, i0, f0, 0⟩, ⟨t1, i1, f1, 0⟩] sc ps
theorem dturn_out (kx vx t0 i0 t1 i1 : Expr) (f0 f1 : List Expr) (sc : Scope) (ps : Pos) (it acc : Value) (en : Env) :
    compTurn (dcx kx vx t0 i0 t1 i1 f0 f1 sc ps) 0 it acc en = (do
      standAt i0.pos
      match ← pyNext it with
      | none => pure (.done .next)
      | some z =>
        letOwnedTupleGo t0 it z
        assign t0 en z
        let mut fine := true
        for q in f0 do
          if fine then fine ← isTrue q en (eval q en)
        if fine then
          let y ← eval i1 en
          standAt i1.pos
          let y ← foldedSetIterable i1 en y
          let _ ← runOwn (.compStart (dcx kx vx t0 i0 t1 i1 f0 f1 sc ps) 1 (← holding [y] (pyIter y)) acc en) en
        again (.compLoop (dcx kx vx t0 i0 t1 i1 f0 f1 sc ps) 0 it acc en)) := by rfl
theorem dturn_in (kx vx t0 i0 t1 i1 : Expr) (f0 f1 : List Expr) (sc : Scope) (ps : Pos) (it : Value) (D : Addr) (en : Env) :
    compTurn (dcx kx vx t0 i0 t1 i1 f0 f1 sc ps) 1 it (.ref D) en = (do
      standAt i1.pos
      match ← pyNext it with
      | none => pure (.done .next)
      | some z =>
        letOwnedTupleGo t1 it z
        assign t1 en z
        let mut fine := true
        for q in f1 do
          if fine then fine ← isTrue q en (eval q en)
        if fine then
          (do
            let kz ← eval kx en
            let vz ← holding [kz] (eval vx en)
            standAt { kx.pos with endLine := vx.pos.endLine, endCol := vx.pos.endCol }
            holding [kz, vz] (dictSet D kz vz))
        again (.compLoop (dcx kx vx t0 i0 t1 i1 f0 f1 sc ps) 1 it (.ref D) en)) := by rfl
/-- what a turn does behind its tests: to the state told; NB takes what it raises -/
abbrev ActT : Type := (Value → Shared → Prop) → (Shared → Prop) → Shared → Prop
abbrev notes (M : Model) (A : Around) (en : Env) (R : Result → Shared → Prop) : Value → Shared → Prop := notedBy M A en fun e s' => R (.error e) s'
abbrev testsOf (fs : List Expr) (en : Env) : Sem Bool := forIn fs true fun q r => if r = true then do let fine ← isTrue q en (eval q en); pure (ForInStep.yield fine) else pure (ForInStep.yield r)
/-- one turn of a clause: next, store, tests, act -/
def TurnH (M : Model) (A : Around) (tg : Expr) (fs : List Expr) (it : Value) (en : Env) (R : Result → Shared → Prop) (act : ActT) (I : Nat → Shared → Prop) : Prop := ∀ n s, I n s → wpAny M A (pyNext it) (fun r s1 => match r with
  | none => R (.ok .next) s1
  | some z => wpAny M A (letOwnedTupleGo tg it z) (fun _ s2 => wpAny M A (assign tg en z) (fun _ s3 => wpAny M A (testsOf fs en) (fun fine s4 =>
      if fine = true then act (notes M A en R) (fun s5 => ∃ m, m < n ∧ I m s5) s4 else ∃ m, m < n ∧ I m s4) (notes M A en R) s3) (notes M A en R) s2) (notes M A en R) s1) (notes M A en R) s
section
variable {prog : Program} {w : World} {A : Around} {R : Result → Shared → Prop} {s : Shared} {kx vx t0 i0 t1 i1 tg iter : Expr} {f0 f1 fs : List Expr} {sc : Scope} {ps : Pos} {it acc : Value} {D : Addr} {en : Env}
/-- key, value, store -/
def actSet (M : Model) (A : Around) (kx vx : Expr) (D : Addr) (en : Env) : ActT := fun NB Post s => wpAny M A (eval kx en) (fun kz s1 => wpAny M A (eval vx en) (fun vz s2 => wpAny M A (dictSet D kz vz) (fun _ s3 => Post s3) NB s2) NB s1) NB s
/-- the second clause's loop -/
def actIn (M : Model) (A : Around) (cx i1 : Expr) (acc : Value) (en : Env) : ActT := fun NB Post s => wpAny M A (eval i1 en) (fun y s1 => wpAny M A (pyIter y) (fun it1 s2 => codeAny M A (.compStart cx 1 it1 acc en) (fun r s3 => match r with
  | .ok _ => Post s3
  | .error _ => False) s2) NB s1) NB s
theorem loop_set1 {cx : Expr} (hcx : cx = .DictComp kx vx [⟨tg, iter, fs, 0⟩] sc ps) (I : Nat → Shared → Prop) (turn : TurnH (model prog w) A tg fs it en R (actSet (model prog w) A kx vx D en) I) (n : Nat) (h : I n s) : codeAny (model prog w) A (.compLoop cx 0 it (.ref D) en) R s := by
  subst hcx
  exact compLoop_anyD I turn n h
theorem loop_out (hs : ∀ x, foldedSetIterable i1 en x = pure x) (I : Nat → Shared → Prop) (turn : TurnH (model prog w) A t0 f0 it en R (actIn (model prog w) A (dcx kx vx t0 i0 t1 i1 f0 f1 sc ps) i1 acc en) I) (n : Nat) (h : I n s) :
    codeAny (model prog w) A (.compLoop (dcx kx vx t0 i0 t1 i1 f0 f1 sc ps) 0 it acc en) R s := by
  refine codeAny_loop rfl I (fun n s hI => ?_) n h
  show wpAny _ A ((compTurn (dcx kx vx t0 i0 t1 i1 f0 f1 sc ps) 0 it acc en).onRaise (fun x => do noteFrame x en; theTreesLotGoes x)) _ _ s
  refine wpAny_noted ?_
  rw [dturn_out]
  have keep : ∀ {e : Value} {t : Shared}, notes (model prog w) A en R e t → notes (model prog w) A en R e t := fun h => h
  refine wpAny_bind (wpAny_standAt (wpAny_bind (wpAny_mono (turn n s hI) (fun r s1 g1 => ?_) fun _ _ g => g)))
  cases r with
  | none => exact wpAny_pure g1
  | some z =>
    refine wpAny_bind (wpAny_mono g1 (fun _ s2 g2 => wpAny_bind (wpAny_mono g2 (fun _ s3 g3 => wpAny_bind (wpAny_mono g3 (fun fine s4 g4 => ?_) fun _ _ g => g)) fun _ _ g => g)) fun _ _ g => g)
    cases fine with
    | false => exact wpAny_pure ⟨rfl, g4⟩
    | true =>
      refine wpAny_bind (wpAny_mono g4 (fun y s5 g5 => ?_) fun _ _ g => g)
      refine wpAny_bind (wpAny_standAt (wpAny_bind (wpAny_of_eq (hs y) (wpAny_bind (wpAny_holding (wpAny_mono g5 (fun it1 s6 g6 => ?_) fun _ _ g => g))))))
      refine wpAny_bind (wpAny_runOwn ?_)
      rw [Around.mark_none]
      refine codeAny_mono g6 fun r s7 g7 => ?_
      cases r with
      | ok f => first | exact wpAny_pure ⟨rfl, g7⟩ | exact wpAny_bind (wpAny_pure (wpAny_pure ⟨rfl, g7⟩))
      | error e => exact g7.elim
theorem loop_in (I : Nat → Shared → Prop) (turn : TurnH (model prog w) A t1 f1 it en R (actSet (model prog w) A kx vx D en) I) (n : Nat) (h : I n s) : codeAny (model prog w) A (.compLoop (dcx kx vx t0 i0 t1 i1 f0 f1 sc ps) 1 it (.ref D) en) R s := by
  refine codeAny_loop rfl I (fun n s hI => ?_) n h
  show wpAny _ A ((compTurn (dcx kx vx t0 i0 t1 i1 f0 f1 sc ps) 1 it (.ref D) en).onRaise (fun x => do noteFrame x en; theTreesLotGoes x)) _ _ s
  refine wpAny_noted ?_
  rw [dturn_in]
  refine wpAny_bind (wpAny_standAt (wpAny_bind (wpAny_mono (turn n s hI) (fun r s1 g1 => ?_) fun _ _ g => g)))
  cases r with
  | none => exact wpAny_pure g1
  | some z =>
    refine wpAny_bind (wpAny_mono g1 (fun _ s2 g2 => wpAny_bind (wpAny_mono g2 (fun _ s3 g3 => wpAny_bind (wpAny_mono g3 (fun fine s4 g4 => ?_) fun _ _ g => g)) fun _ _ g => g)) fun _ _ g => g)
    cases fine with
    | false => exact wpAny_pure ⟨rfl, g4⟩
    | true =>
      exact wpAny_bind (wpAny_bind (wpAny_mono g4 (fun kz s5 g5 => wpAny_bind (wpAny_holding (wpAny_mono g5 (fun vz s6 g6 => wpAny_bind (wpAny_standAt (wpAny_holding (wpAny_mono g6 (fun _ s7 g7 => wpAny_pure ⟨rfl, g7⟩) fun _ _ g => g)))) fun _ _ g => g))) fun _ _ g => g))
theorem start_in (h0 : codeAny (model prog w) A (.compLoop (dcx kx vx t0 i0 t1 i1 f0 f1 sc ps) 1 it acc en) R s)
    (h : wpAny (model prog w) A (pyIter it) (fun it' s' => codeAny (model prog w) A (.compLoop (dcx kx vx t0 i0 t1 i1 f0 f1 sc ps) 1 it' acc en) R s') (notes (model prog w) A en R) s) :
    codeAny (model prog w) A (.compStart (dcx kx vx t0 i0 t1 i1 f0 f1 sc ps) 1 it acc en) R s := by
  refine codeAny_of_tree ?_
  show wpAny _ _ ((compStart (dcx kx vx t0 i0 t1 i1 f0 f1 sc ps) 1 it acc en).onRaise (fun x => do noteFrame x en; standAt theWindowsPlace)) _ _ s
  refine wpAny_notedAt ?_
  unfold compStart
  show wpAny _ _ (ask >>= _) _ _ s
  refine wpAny_bind (wpAny_askSetting (wpAny_ite ?_))
  split
  · first
      | exact wpAny_bind (wpAny_pure (wpAny_pure ⟨rfl, h0⟩))
      | exact wpAny_pure ⟨rfl, h0⟩
  · first
      | exact wpAny_bind (wpAny_rule (wpAny_bind (wpAny_standAt (wpAny_bind (wpAny_mono h (fun _ _ g => wpAny_pure ⟨rfl, g⟩) fun _ _ g => g)))))
      | (refine wpAny_bind (wpAny_rule ?_); show wpAny _ _ (standAt i1.pos >>= _) _ _ s; exact wpAny_bind (wpAny_standAt (wpAny_bind (wpAny_mono h (fun _ _ g => wpAny_pure ⟨rfl, g⟩) fun _ _ g => g))))
end
end WW
set_option maxHeartbeats 2000000
namespace WW
open PySem PySem.Spec PyProof.Rows L2
/-- {.. for tg in iter if .. ..}: tr what a turn does behind its tests -/
def tDcG (wi : TI) (g : TG) (tt : TT) (tr : Addr → L2.St → Hp → (Hp → Prop) → Prop) (vs : List Nat) : TE := fun σ H Q => wi σ H fun J H1 => ∀ D, H1 D = none → ∃ Z : Nat → Nat → Hp → Prop, (∃ m, Z 0 m (upd H1 D (.dK []))) ∧ ∀ i m H, Z i m H →
  (J.stop i H ∧ Q (.ref D) H) ∨ (J.go i H ∧ ∃ Nx : Hp → Prop, (∀ H', Nx H' → ∃ m', m' < m ∧ Z (i + 1) m' H') ∧ ∀ x H', J.yld i H x H' → g x (wipe σ vs) H' fun σ2 H2 => wipe σ2 vs = wipe σ vs ∧ tt σ2 H2 fun b H3 => if b = true then tr D σ2 H3 Nx else Nx H3)
/-- an act done in a block's context -/
def ActOk (Y : Cx) (act : ActT) (tr : L2.St → Hp → (Hp → Prop) → Prop) (vs : List Nat) : Prop := ∀ (pn : List (Addr × Obj)) (s : Shared) (σ : L2.St) (H : Hp) (Nx : Hp → Prop) (NB : Value → Shared → Prop), Inv Y pn σ H s → tr σ H Nx →
  ∀ Post : Shared → Prop, (∀ s' σ' H', Inv Y pn σ' H' s' → σ'.length = σ.length → (∀ j, j ∉ vs → σ'[j]? = σ[j]?) → Nx H' → Post s') → act NB Post s
section
variable {X : Cx}
theorem dcg_core {pn : List (Addr × Obj)} {s : Shared} {σ : L2.St} {H : Hp} {Q : VK} {kx vx tg iter : Expr} {ifs : List Expr} {rest : List Comprehension} {scope : Scope} {own : List (Str × Nat)} {pos pos' : Pos} {wi : TI} {g : TG} {tt : TT} {tr : Addr → L2.St → Hp → (Hp → Prop) → Prop}
    {act : Addr → Env → ActT} {use : Option (Value → Sem Unit)} {Qf : Value → Shared → Prop} (hc : X.calm = true) (hN : X.N.Nodup) (I : Inv X pn σ H s) (hi : PI X tg iter wi) (ok : BlkOk X.N X.env.scope scope own)
    (hg : ∀ (s : Shared) (H : Hp) (C : Addr) (cl : List (Str × Addr)) (fp : List Addr), PG (X.blk s H scope (compEnvC scope cl C X.env) fp) tg g)
    (ht : ∀ (s : Shared) (H : Hp) (C : Addr) (cl : List (Str × Addr)) (fp : List Addr), PTs (X.blk s H scope (compEnvC scope cl C X.env) fp) ifs tt)
    (ha : ∀ (s : Shared) (H : Hp) (C D : Addr) (cl : List (Str × Addr)) (fp : List Addr), ActOk (X.blk s H scope (compEnvC scope cl C X.env) fp) (act D (compEnvC scope cl C X.env)) (tr D) (own.map (·.2)))
    (hl : ∀ (R : Result → Shared → Prop) (it D C : Addr) (cl : List (Str × Addr)) (Z : Nat → Shared → Prop) (n : Nat) (s : Shared), TurnH (model X.prog X.w) X.A tg ifs (.ref it) (compEnvC scope cl C X.env) R (act D (compEnvC scope cl C X.env)) Z → Z n s →
      codeAny (model X.prog X.w) X.A (.compLoop (.DictComp kx vx (⟨tg, iter, ifs, 0⟩ :: rest) scope pos) 0 (.ref it) (.ref D) (compEnvC scope cl C X.env)) R s)
    (hs : ∀ x, foldedSetIterable iter X.env x = pure x) (h : tDcG wi g tt tr (own.map (·.2)) σ H Q)
    (hend : ∀ D C s' m H', Inv X pn σ H' s' → Q (.ref D) H' → s'.heap.Ns C m → FpOk X pn H' C → compPost (model X.prog X.w) X.A X.xe use Qf (.ref D) C (.ok .next) s') :
    wpAny (model X.prog X.w) X.A (comprehension (.DictComp kx vx (⟨tg, iter, ifs, 0⟩ :: rest) scope pos) scope X.env pos' newDict false (eval iter X.env) use) Qf X.xe s := by
  have cap : ∀ y ∈ scope.names, y.2 = .free → ∃ b, X.env.cells.lookup y.1 = some b := fun y hy e => (ok.free y hy e).elim (fun z => I.ok.has _ (.inl z)) fun z => I.ok.has _ (.inr z)
  refine wpAny_comprehension_free (use := use) rfl hs (closure_ok cap) ok.kind (fun y hy e => by rw [ok.uniq y hy, e]) (thn (hi.run pn s σ H _ I h) fun _ t1 k1 => thn k1 fun _ t2 k2 => ?_)
  obtain ⟨it, fp, tn, J, H2, rfl, I2, T, st2, own2, q⟩ := k2
  refine wpAny_newObj_type (newEnv_comp ?_)
  generalize hD : t2.heap.objs.size = D
  obtain ⟨Z, ⟨m0, z0⟩, turn⟩ := q D (I2.hok.fresh (Nat.le_of_eq hD))
  -- the new dict, empty
  generalize ht3 : ({ t2 with heap := t2.heap.push { cls := .type "dict", data := .dict #[] } } : Shared) = t3
  have hp3 : t3.heap = t2.heap.push { cls := .type "dict", data := .dict #[] } := by rw [← ht3]
  have I3 : Inv X pn σ (upd H2 D (.dK [])) t3 := by
    rw [← ht3]
    refine I2.laid (t' := t2.toks) (fun b o e => Heap.get?_push_of_some _ e) (Nat.le_of_eq hD) ?_
    rw [← hD]
    exact dk_empty t2.heap I2.big
  have lt2 : ∀ b ∈ fp, b < t2.heap.objs.size := fun b hb => let ⟨_, e, _⟩ := T.obj _ _ st2 b hb; Heap.lt_size e
  have own3 : ∀ b ∈ fp, FpOk X pn (upd H2 D (.dK [])) b ∧ b < t3.heap.objs.size := fun b hb => by
    have lt := lt2 b hb
    have ne : b ≠ D := by rw [← hD]; exact Nat.ne_of_lt lt
    exact ⟨⟨by rw [upd_ne ne]; exact (own2 b hb).1, (own2 b hb).2⟩, by rw [hp3, Heap.size_push]; exact Nat.lt_succ_of_lt lt⟩
  have st3 : tn 0 t3.heap := T.keep _ _ _ st2 fun b _ o e => by rw [hp3]; exact Heap.get?_push_of_some _ e
  -- the block
  have I4 := block_start I3 ok hN own3
  generalize hcl : cellsFrom (t3.heap.objs.size + 1) scope.names (cloFrom X.env.cells scope.names []) = cl at I4
  have pg := hg t3 (upd H2 D (.dK [])) t3.heap.objs.size cl fp
  have pt := ht t3 (upd H2 D (.dK [])) t3.heap.objs.size cl fp
  have pa := ha t3 (upd H2 D (.dK [])) t3.heap.objs.size D cl fp
  show codeAny _ _ (.compStart (.DictComp kx vx (⟨tg, iter, ifs, 0⟩ :: rest) scope pos) 0 (.ref it) (.ref D) (compEnvC scope cl t3.heap.objs.size X.env)) (compPost (model X.prog X.w) X.A X.xe use Qf (.ref D) t3.heap.objs.size) { t3 with heap := pushCells (t3.heap.push { cls := .type "dict", data := .dict #[] }) scope.names }
  have ceL : (compEnvC scope cl t3.heap.objs.size X.env).locals = t3.heap.objs.size := rfl
  have noH : ∀ b ∈ fp, (upd H2 D (.dK [])) b = none := fun b hb => (own3 b hb).1.1
  generalize hH3 : upd H2 D (.dK []) = H3 at I3 I4 pg pt pa z0 noH own3
  generalize ht4 : ({ t3 with heap := pushCells (t3.heap.push { cls := .type "dict", data := .dict #[] }) scope.names } : Shared) = t4 at I4 ⊢
  have st4 : tn 0 t4.heap := T.keep _ _ _ st3 fun b _ o e => by rw [← ht4]; exact pushCells_keeps _ _ _ _ (Heap.get?_push_of_some _ e)
  have fresh : ∀ {σ' : L2.St} {H' : Hp} {s' : Shared}, Inv (X.blk t3 H3 scope (compEnvC scope cl t3.heap.objs.size X.env) fp) [] σ' H' s' → (∀ b ∈ fp, H' b = none) → ∀ b ∈ fp, FpOk (X.blk t3 H3 scope (compEnvC scope cl t3.heap.objs.size X.env) fp) [] H' b := fun I' hn b hb =>
    ⟨hn b hb, (I'.ok.exf b hb).1, I'.ok.exfs b hb, .inl hb, fun x b' e => (I'.ok.exf b hb).2 x b' e, fun p hp => by simp at hp⟩
  refine codeAny_compStart_dict ?_ (T.self X.A 0 _ _ _ st4 ?_) <;>
  · refine hl _ it D _ cl (fun n s' => ∃ i H', Inv (X.blk t3 H3 scope (compEnvC scope cl t3.heap.objs.size X.env) fp) [] (wipe σ (own.map (·.2))) H' s' ∧ tn i s'.heap ∧ (∀ b ∈ fp, H' b = none) ∧ Z i n H') m0 t4 ?_ ⟨0, H3, I4, st4, noH, z0⟩
    rintro n t5 ⟨i, H5, I5, st5, no5, z5⟩
    rcases turn i n H5 z5 with ⟨stop, qq⟩ | ⟨go, Nx, hNx, step⟩
    · refine thnF (T.done (X.blk t3 H3 scope (compEnvC scope cl t3.heap.objs.size X.env) fp) rfl rfl rfl hc i [] t5 _ H5 (fun _ _ => False) I5 (fresh I5 no5) st5 stop) fun r t6 ⟨hr, I6⟩ => ?_
      subst hr
      have I7 : Inv X pn σ H5 t6 := I3.call' (ch := fp) I6.os I6.base I6.hok I6.bare fun b hb => let z := (own3 b hb).1.2; ⟨z.2.2.1, z.1, z.2.2.2.1, z.2.2.2.2⟩
      have noC : H5 t3.heap.objs.size = none := I6.free
      obtain ⟨m, hn, _⟩ := I6.loc
      exact hend D t3.heap.objs.size t6 m H5 I7 qq hn (I3.fpOk (Nat.le_refl _) noC)
    · refine thnF (T.item (X.blk t3 H3 scope (compEnvC scope cl t3.heap.objs.size X.env) fp) rfl rfl rfl hc i [] t5 _ H5 (fun _ _ => False) I5 (fresh I5 no5) st5 go) fun r t6 ⟨u, hr, k6⟩ => ?_
      subst hr
      refine thnF k6 fun _ t7 ⟨x, H7, I7, r7, y7, st7, no7⟩ => ?_
      refine thnF (pg.run _ t7 _ H7 x u _ (I7.pinned (fresh I7 no7) (T.obj _ _ st7)) r7 (step x H7 y7)) fun _ t8 ⟨σ8, H8, I8, w8, q8⟩ => ?_
      refine thnF (pt.run _ t8 σ8 H8 _ I8 q8) fun b t9 ⟨H9, I9, q9⟩ => ?_
      have len8 : (wipe σ (own.map (·.2))).length = σ8.length := by rw [← w8, wipe_length]
      have fin : ∀ {σ9 : L2.St} {s' : Shared} {H' : Hp}, Inv (X.blk t3 H3 scope (compEnvC scope cl t3.heap.objs.size X.env) fp) ([] ++ pinsAt fp t7.heap) σ9 H' s' → σ9.length = σ8.length → (∀ j, j ∉ own.map (·.2) → σ9[j]? = σ8[j]?) → Nx H' →
          ∃ m, m < n ∧ ∃ i H', Inv (X.blk t3 H3 scope (compEnvC scope cl t3.heap.objs.size X.env) fp) [] (wipe σ (own.map (·.2))) H' s' ∧ tn i s'.heap ∧ (∀ b ∈ fp, H' b = none) ∧ Z i m H' := fun {σ9 s' H'} I' l9 k9 nx => by
        obtain ⟨m', hm, z'⟩ := hNx H' nx
        have pin : ∀ b ∈ fp, ∀ o, t7.heap.get? b = some o → s'.heap.get? b = some o ∧ H' b = none := fun b hb o e => let z := I'.pin (b, o) (List.mem_append_right _ (List.mem_append_right _ (mem_pinsAt hb e))); ⟨z.1, z.2.1⟩
        refine ⟨m', hm, i + 1, H', (I'.unpinned (pins := [])).weak (len8.trans l9.symm) (fun j v e => ?_), T.keep _ _ _ st7 fun b hb o e => (pin b hb o e).1, fun b hb => let ⟨o, e, _⟩ := T.obj _ _ st7 b hb; (pin b hb o e).2, z'⟩
        rw [← w8] at e
        obtain ⟨e1, e2⟩ := wipe_some e
        rw [k9 j e2]
        exact e1
      cases b with
      | false =>
        simp only [Bool.false_eq_true, if_false] at q9 ⊢
        exact fin I9 rfl (fun _ _ => rfl) q9
      | true =>
        simp only [if_true] at q9 ⊢
        exact pa _ t9 σ8 H9 Nx _ I9 q9 _ fun s' σ' H' I' l' k' nx => fin I' l' k' nx
end
/-- the heap behind D[y] = z -/
def DStep (P : Program) (w : World) (K : PySem.W.Frag) (D : Addr) (H : Hp) (y z : V) (H' : Hp) : Prop :=
  (∃ kvs k, y = kV k ∧ H D = some (.dK kvs) ∧ kvs.length < sizeLine ∧ H' = upd H D (.dK (putK kvs k z))) ∨
  ∃ es b k, NDict P w H D es ∧ KeysAt K H es ∧ NKey K H y b k ∧ es.length < sizeLine ∧ H' = upd H D (dictN P w D (nPut es k b z))
def trSet (P : Program) (w : World) (K : PySem.W.Frag) (tk tv : TE) : Addr → L2.St → Hp → (Hp → Prop) → Prop := fun D σ H Nx => tk σ H fun y H1 => tv σ H1 fun z H2 => ∃ H3, DStep P w K D H2 y z H3 ∧ Nx H3
def trIn (wi1 : TI) (g1 : TG) (tt1 : TT) (tr1 : Addr → L2.St → Hp → (Hp → Prop) → Prop) (vs1 : List Nat) : Addr → L2.St → Hp → (Hp → Prop) → Prop := fun D σ H Nx => wi1 σ H fun J1 H1 => ∃ Z1 : Nat → Nat → Hp → Prop, (∃ m, Z1 0 m H1) ∧ ∀ j m H, Z1 j m H →
  (J1.stop j H ∧ Nx H) ∨ (J1.go j H ∧ ∃ Nx1 : Hp → Prop, (∀ H', Nx1 H' → ∃ m', m' < m ∧ Z1 (j + 1) m' H') ∧ ∀ x H', J1.yld j H x H' → g1 x (wipe σ vs1) H' fun σ2 H2 => wipe σ2 vs1 = wipe σ vs1 ∧ tt1 σ2 H2 fun b H3 => if b = true then tr1 D σ2 H3 Nx1 else Nx1 H3)
section
variable {Y : Cx}
theorem act_set {kx vx : Expr} {tk tv : TE} {D : Addr} {vs : List Nat} (hu : Y.A.units + 9 < cLine) (hx : Y.xe = fun _ _ => False) (hk : PE Y kx tk) (hv : PE Y vx tv) : ActOk Y (actSet (model Y.prog Y.w) Y.A kx vx D Y.env) (trSet Y.prog Y.w Y.K tk tv D) vs := by
  intro pn s σ H Nx NB I q Post fin
  have r1 := hk.run pn s σ H _ I q
  rw [hx] at r1
  refine thnF r1 fun kz s1 ⟨y, H1, I1, ry, q1⟩ => ?_
  have r2 := hv.run pn s1 σ H1 _ I1 q1
  rw [hx] at r2
  refine thnF r2 fun vz s2 ⟨z, H2, I2, rz, H3, st, nx⟩ => ?_
  rcases st with ⟨kvs, k, rfl, hD, hz, rfl⟩ | ⟨es, b, k, nd, ka, nk, hz, rfl⟩
  · exact d_dictSet I2 hD hz ry rz fun s' I' => fin s' σ _ I' rfl (fun _ _ => rfl) nx
  · exact dset_dn hu I2 nd ka nk hz ry rz fun s' I' => fin s' σ _ I' rfl (fun _ _ => rfl) nx
theorem act_in {kx vx t0 i0 t1 i1 : Expr} {f0 f1 : List Expr} {sc : Scope} {ps : Pos} {wi1 : TI} {g1 : TG} {tt1 : TT} {tr1 : Addr → L2.St → Hp → (Hp → Prop) → Prop} {D : Addr} {vs vs1 : List Nat} (hc : Y.calm = true) (hx : Y.xe = fun _ _ => False) (hv : ∀ i ∈ vs1, i ∈ vs)
    (hi : PI Y t1 i1 wi1) (hg : PG Y t1 g1) (ht : PTs Y f1 tt1) (ha : ActOk Y (actSet (model Y.prog Y.w) Y.A kx vx D Y.env) (tr1 D) vs1) :
    ActOk Y (actIn (model Y.prog Y.w) Y.A (dcx kx vx t0 i0 t1 i1 f0 f1 sc ps) i1 (.ref D) Y.env) (trIn wi1 g1 tt1 tr1 vs1 D) vs := by
  intro pn s σ H Nx NB I q Post fin
  have r1 := hi.run pn s σ H _ I q
  rw [hx] at r1
  refine thnF r1 fun y s1 k1 => thnF k1 fun itv s2 k2 => ?_
  obtain ⟨it, fp, tn, J, H2, rfl, I2, T, st2, own2, Z, ⟨m0, z0⟩, turn⟩ := k2
  have fresh : ∀ {H' : Hp}, (∀ b ∈ fp, H' b = none) → ∀ b ∈ fp, FpOk Y pn H' b := fun hn b hb => ⟨hn b hb, (own2 b hb).2⟩
  refine start_in ?_ (T.self Y.A 0 _ _ _ st2 ?_) <;>
  · refine loop_in (fun n s' => ∃ j H', Inv Y pn (wipe σ vs1) H' s' ∧ tn j s'.heap ∧ (∀ b ∈ fp, H' b = none) ∧ Z j n H') ?_ m0 ⟨0, H2, I2.weak (wipe_length _ _) (fun j v e => (wipe_some e).1), st2, fun b hb => (own2 b hb).1, z0⟩
    rintro n s3 ⟨j, H3, I3, st3, no3, z3⟩
    rcases turn j n H3 z3 with ⟨stop, nx⟩ | ⟨go, Nx1, hNx, step⟩
    · refine thnF (T.done Y rfl rfl rfl hc j pn s3 _ H3 (fun _ _ => False) I3 (fresh no3) st3 stop) fun r s4 ⟨hr, I4⟩ => ?_
      subst hr
      exact fin s4 _ H3 I4 (wipe_length _ _) (fun i hi => wipe_out fun z => hi (hv i z)) nx
    · refine thnF (T.item Y rfl rfl rfl hc j pn s3 _ H3 (fun _ _ => False) I3 (fresh no3) st3 go) fun r s4 ⟨u, hr, k4⟩ => ?_
      subst hr
      refine thnF k4 fun _ s5 ⟨x, H5, I5, r5, y5, st5, no5⟩ => ?_
      have g1 := hg.run _ s5 _ H5 x u _ (I5.pinned (fresh no5) (T.obj _ _ st5)) r5 (step x H5 y5)
      rw [hx] at g1
      refine thnF g1 fun _ s6 ⟨σ6, H6, I6, w6, q6⟩ => ?_
      have g2 := ht.run _ s6 σ6 H6 _ I6 q6
      rw [hx] at g2
      refine thnF g2 fun b s7 ⟨H7, I7, q7⟩ => ?_
      have len6 : (wipe σ vs1).length = σ6.length := by rw [← w6, wipe_length]
      have again : ∀ {σ9 : L2.St} {s' : Shared} {H' : Hp}, Inv Y (pn ++ pinsAt fp s5.heap) σ9 H' s' → σ9.length = σ6.length → (∀ i, i ∉ vs1 → σ9[i]? = σ6[i]?) → Nx1 H' → ∃ m, m < n ∧ ∃ j H', Inv Y pn (wipe σ vs1) H' s' ∧ tn j s'.heap ∧ (∀ b ∈ fp, H' b = none) ∧ Z j m H' := fun {σ9 s' H'} I' l9 k9 nx => by
        obtain ⟨m', hm, z'⟩ := hNx H' nx
        have pin : ∀ b ∈ fp, ∀ o, s5.heap.get? b = some o → s'.heap.get? b = some o ∧ H' b = none := fun b hb o e => let z := I'.pin (b, o) (List.mem_append_right _ (List.mem_append_right _ (mem_pinsAt hb e))); ⟨z.1, z.2.1⟩
        refine ⟨m', hm, j + 1, H', I'.unpinned.weak (len6.trans l9.symm) (fun i v e => ?_), T.keep _ _ _ st5 fun b hb o e => (pin b hb o e).1, fun b hb => let ⟨o, e, _⟩ := T.obj _ _ st5 b hb; (pin b hb o e).2, z'⟩
        rw [← w6] at e
        obtain ⟨e1, e2⟩ := wipe_some e
        rw [k9 i e2]
        exact e1
      cases b with
      | false =>
        simp only [Bool.false_eq_true, if_false] at q7 ⊢
        exact again I7 rfl (fun _ _ => rfl) q7
      | true =>
        simp only [if_true] at q7 ⊢
        exact ha _ s7 σ6 H7 Nx1 _ I7 q7 _ fun s' σ' H' I' l' k' nx => again I' l' k' nx
end
section
variable {X : Cx} {kx vx tg iter tg1 iter1 : Expr} {ifs ifs1 : List Expr} {scope : Scope} {own : List (Str × Nat)} {pos : Pos} {wi wi1 : TI} {g g1 : TG} {tt tt1 : TT} {tk tv : TE} {vs1 : List Nat}
/-- {k: v for tg in iter if ..}, as a value -/
theorem pe_dcA (hu : X.A.units + 9 < cLine) (hc : X.calm = true) (hN : X.N.Nodup) (hi : PI X tg iter wi) (ok : BlkOk X.N X.env.scope scope own)
    (hg : ∀ (s : Shared) (H : Hp) (C : Addr) (cl : List (Str × Addr)) (fp : List Addr), PG (X.blk s H scope (compEnvC scope cl C X.env) fp) tg g)
    (ht : ∀ (s : Shared) (H : Hp) (C : Addr) (cl : List (Str × Addr)) (fp : List Addr), PTs (X.blk s H scope (compEnvC scope cl C X.env) fp) ifs tt)
    (hk : ∀ (s : Shared) (H : Hp) (C : Addr) (cl : List (Str × Addr)) (fp : List Addr), PE (X.blk s H scope (compEnvC scope cl C X.env) fp) kx tk)
    (hv : ∀ (s : Shared) (H : Hp) (C : Addr) (cl : List (Str × Addr)) (fp : List Addr), PE (X.blk s H scope (compEnvC scope cl C X.env) fp) vx tv) (hs : ∀ x, foldedSetIterable iter X.env x = pure x := by intro _; rfl) :
    PE X (.DictComp kx vx [⟨tg, iter, ifs, 0⟩] scope pos) (tDcG wi g tt (trSet X.prog X.w X.K tk tv) (own.map (·.2))) := by
  refine ⟨fun pn s σ H Q I h => ?_⟩
  rw [arm_eval_DictComp]
  refine dcg_core (act := fun D en => actSet (model X.prog X.w) X.A kx vx D en) hc hN I hi ok hg ht (fun s H C D cl fp => act_set (Y := X.blk s H scope (compEnvC scope cl C X.env) fp) hu rfl (hk s H C cl fp) (hv s H C cl fp)) (fun R it D C cl Z n s tn h0 => loop_set1 rfl Z tn n h0) hs h
    fun D C s' m H' I' q hn f => ⟨m, hn, fun h'' sb => ?_⟩
  obtain ⟨f0, f1, f2, f3, f4, f5⟩ := f
  exact ⟨.ref D, H', I'.turned (t' := s'.toks) (fun b o hb e => (sb.2 b hb).trans e) f0 f1 f3 f4 f5, rfl, q⟩
/-- {k: v for tg in iter if .. for tg1 in iter1 if ..} -/
theorem pe_dcA2 (hu : X.A.units + 9 < cLine) (hc : X.calm = true) (hN : X.N.Nodup) (hi : PI X tg iter wi) (ok : BlkOk X.N X.env.scope scope own) (hvs : ∀ i ∈ vs1, i ∈ own.map (·.2))
    (hg : ∀ (s : Shared) (H : Hp) (C : Addr) (cl : List (Str × Addr)) (fp : List Addr), PG (X.blk s H scope (compEnvC scope cl C X.env) fp) tg g)
    (ht : ∀ (s : Shared) (H : Hp) (C : Addr) (cl : List (Str × Addr)) (fp : List Addr), PTs (X.blk s H scope (compEnvC scope cl C X.env) fp) ifs tt)
    (hi1 : ∀ (s : Shared) (H : Hp) (C : Addr) (cl : List (Str × Addr)) (fp : List Addr), PI (X.blk s H scope (compEnvC scope cl C X.env) fp) tg1 iter1 wi1)
    (hg1 : ∀ (s : Shared) (H : Hp) (C : Addr) (cl : List (Str × Addr)) (fp : List Addr), PG (X.blk s H scope (compEnvC scope cl C X.env) fp) tg1 g1)
    (ht1 : ∀ (s : Shared) (H : Hp) (C : Addr) (cl : List (Str × Addr)) (fp : List Addr), PTs (X.blk s H scope (compEnvC scope cl C X.env) fp) ifs1 tt1)
    (hk : ∀ (s : Shared) (H : Hp) (C : Addr) (cl : List (Str × Addr)) (fp : List Addr), PE (X.blk s H scope (compEnvC scope cl C X.env) fp) kx tk)
    (hv : ∀ (s : Shared) (H : Hp) (C : Addr) (cl : List (Str × Addr)) (fp : List Addr), PE (X.blk s H scope (compEnvC scope cl C X.env) fp) vx tv) (hs : ∀ x, foldedSetIterable iter X.env x = pure x := by intro _; rfl)
    (hs1 : ∀ env x, foldedSetIterable iter1 env x = pure x := by intro _ _; rfl) :
    PE X (.DictComp kx vx [⟨tg, iter, ifs, 0⟩, ⟨tg1, iter1, ifs1, 0⟩] scope pos) (tDcG wi g tt (trIn wi1 g1 tt1 (trSet X.prog X.w X.K tk tv) vs1) (own.map (·.2))) := by
  refine ⟨fun pn s σ H Q I h => ?_⟩
  rw [arm_eval_DictComp]
  refine dcg_core (act := fun D en => actIn (model X.prog X.w) X.A (dcx kx vx tg iter tg1 iter1 ifs ifs1 scope pos) iter1 (.ref D) en) hc hN I hi ok hg ht
    (fun s H C D cl fp => act_in (Y := X.blk s H scope (compEnvC scope cl C X.env) fp) hc rfl hvs (hi1 s H C cl fp) (hg1 s H C cl fp) (ht1 s H C cl fp) (act_set (Y := X.blk s H scope (compEnvC scope cl C X.env) fp) hu rfl (hk s H C cl fp) (hv s H C cl fp)))
    (fun R it D C cl Z n s tn h0 => loop_out (hs1 _) Z tn n h0) hs h fun D C s' m H' I' q hn f => ⟨m, hn, fun h'' sb => ?_⟩
  obtain ⟨f0, f1, f2, f3, f4, f5⟩ := f
  exact ⟨.ref D, H', I'.turned (t' := s'.toks) (fun b o hb e => (sb.2 b hb).trans e) f0 f1 f3 f4 f5, rfl, q⟩
end
end WW
set_option maxHeartbeats 1000000
namespace WW
open PySem PySem.Spec PyProof.Rows L2
def dputD (ks vs : List D) (k v : D) : List D × List D := if (ks.any fun z => eqB z k) = true then (ks, List.zipWith (fun k' v' => if eqB k' k = true then v else v') ks vs) else (ks ++ [k], vs ++ [v])
section
variable {c : Cfg} {L : List (List Addr)} {G H : Hp}
theorem zip_dk {kvs : List (Key × V)} {ks vs : List D} {k : Key} {d v : D} {z : V} (key : ∀ {k' : Key} {d' : D}, Rep c L G (kV k') d' → eqB d' d = decide (k' = k)) (h1 : RepL c L G (kvs.map fun p => kV p.1) ks) (h2 : RepL c L G (kvs.map (·.2)) vs) (rv : Rep c L G z v) :
    RepL c L G ((kvs.map fun kv => if kv.1 = k then (kv.1, z) else kv).map (·.2)) (List.zipWith (fun k' v' => if eqB k' d = true then v else v') ks vs) := by
  induction kvs generalizing ks vs with
  | nil => cases h1; cases h2; exact .nil
  | cons p kvs ih =>
    cases h1 with
    | cons r1 t1 =>
      cases h2 with
      | cons r2 t2 =>
        rw [List.map_cons, List.map_cons, List.zipWith_cons_cons, key r1]
        refine .cons ?_ (ih t1 t2)
        by_cases h : p.1 = k
        · rw [if_pos h, if_pos (decide_eq_true h)]; exact rv
        · rw [if_neg h, if_neg (by simp [h])]; exact r2
theorem key_eq {k : Key} {d : D} (hd : Rep c L G (kV k) d) {k' : Key} {d' : D} (r : Rep c L G (kV k') d') : eqB d' d = decide (k' = k) := by
  have q := (dk_get (kvs := [(k', V.non)]) (ks := [d']) (vs := [.non]) (k := k) (.cons r .nil) (.cons .non .nil) hd).1
  simp only [List.any_cons, List.any_nil, Bool.or_false] at q
  rw [q]
  by_cases h : k' = k
  · rw [decide_eq_true h, valV_pos h]; rfl
  · rw [decide_eq_false h, valV_neg h]; rfl
theorem keys_same {kvs : List (Key × V)} {k : Key} {z : V} : (kvs.map fun kv => if kv.1 = k then (kv.1, z) else kv).map (fun p => kV p.1) = kvs.map fun p => kV p.1 := by
  rw [List.map_map]
  apply List.map_congr_left
  intro p _
  simp only [Function.comp_apply]
  split <;> rfl
theorem dk_put {kvs : List (Key × V)} {ks vs : List D} {k : Key} {d v : D} {z : V} (h1 : RepL c L G (kvs.map fun p => kV p.1) ks) (h2 : RepL c L G (kvs.map (·.2)) vs) (hd : Rep c L G (kV k) d) (rv : Rep c L G z v) :
    RepL c L G ((putK kvs k z).map fun p => kV p.1) (dputD ks vs d v).1 ∧ RepL c L G ((putK kvs k z).map (·.2)) (dputD ks vs d v).2 := by
  have q := (dk_get h1 h2 hd).1
  have q2 := valV_any k kvs
  unfold putK dputD
  by_cases h : (valV kvs k).isSome = true
  · rw [if_pos (by rw [q2]; exact h), if_pos (by rw [q]; exact h)]
    exact ⟨by rw [keys_same]; exact h1, zip_dk (fun r => key_eq hd r) h1 h2 rv⟩
  · rw [if_neg (by rw [q2]; exact h), if_neg (by rw [q]; exact h)]
    rw [List.map_append, List.map_append]
    exact ⟨h1.append (.cons hd .nil), h2.append (.cons rv .nil)⟩
theorem zip_dn {es : List Ent} {ks vs : List D} {k : NestedKey} {d v : D} {z : V} (hk : ks.map toNK = es.map fun e => some e.1) (hd : toNK d = some k) (h2 : RepL c L G (es.map (·.2.2)) vs) (rv : Rep c L G z v) :
    RepL c L G ((es.map (nPutAt k z)).map (·.2.2)) (List.zipWith (fun k' v' => if eqB k' d = true then v else v') ks vs) := by
  induction es generalizing ks vs with
  | nil =>
    cases h2
    cases ks with
    | nil => exact .nil
    | cons _ _ => cases hk
  | cons p es ih =>
    cases ks with
    | nil => cases hk
    | cons d' ks =>
      rw [List.map_cons, List.map_cons] at hk
      injection hk with hk1 hk2
      cases h2 with
      | cons r2 t2 =>
        rw [List.map_cons, List.map_cons, List.zipWith_cons_cons, eqB_nk d' d p.1 k hk1 hd]
        refine .cons ?_ (ih hk2 t2)
        unfold nPutAt
        by_cases h : p.1 = k
        · rw [if_pos h, if_pos (decide_eq_true h)]; exact rv
        · rw [if_neg h, if_neg (by simp [h])]; exact r2
theorem nput_same {es : List Ent} {k : NestedKey} {z : V} {α : Type} (f : NestedKey → Addr → α) : (es.map (nPutAt k z)).map (fun e => f e.1 e.2.1) = es.map fun e => f e.1 e.2.1 := by
  rw [List.map_map]
  apply List.map_congr_left
  intro p _
  simp only [Function.comp_apply, nPutAt]
  split <;> rfl
theorem dn_put {es : List Ent} {ks vs : List D} {k : NestedKey} {b : Addr} {d v : D} {z : V} (h1 : RepL c L G (es.map fun e => V.ref e.2.1) ks) (hk : ks.map toNK = es.map fun e => some e.1) (h2 : RepL c L G (es.map (·.2.2)) vs) (hb : Rep c L G (.ref b) d) (hd : toNK d = some k) (rv : Rep c L G z v) :
    RepL c L G ((nPut es k b z).map fun e => V.ref e.2.1) (dputD ks vs d v).1 ∧ (dputD ks vs d v).1.map toNK = (nPut es k b z).map (fun e => some e.1) ∧ RepL c L G ((nPut es k b z).map (·.2.2)) (dputD ks vs d v).2 := by
  have q := (dn_get h1 hk h2 hd).1
  unfold nPut dputD
  by_cases h : (nGet es k).isSome = true
  · rw [if_pos h, if_pos (by rw [q]; exact h)]
    exact ⟨by rw [nput_same (fun _ a => V.ref a)]; exact h1, by rw [nput_same (fun k _ => some k)]; exact hk, zip_dn hk hd h2 rv⟩
  · rw [if_neg h, if_neg (by rw [q]; exact h)]
    rw [List.map_append, List.map_append, List.map_append, List.map_append]
    exact ⟨h1.append (.cons hb .nil), by rw [hk]; simp [hd], h2.append (.cons rv .nil)⟩
theorem nPut_ne {es : List Ent} {k : NestedKey} {b : Addr} {z : V} : nPut es k b z ≠ [] := by
  unfold nPut
  split
  · rename_i h
    intro e
    have : es = [] := by simpa using e
    subst this
    simp [nGet] at h
  · simp
/-- the step of a store, as data -/
theorem drep_put {D0 : Addr} {o : HO} {ks vs : List D} {y z : V} {k v : D} (s : Sub G H) (hD : H D0 = some o) (dr : DRep c L G D0 o ks vs) (ry : Rep c L G y k) (rz : Rep c L G z v) (ok : keyOk ks k = true) (hl : ks.length < sizeLine) :
    ∃ o', DStep c.P c.w c.K D0 H y z (upd H D0 o') ∧ DRep c L G D0 o' (dputD ks vs k v).1 (dputD ks vs k v).2 := by
  unfold keyOk at ok
  rcases dr with ⟨kvs, rfl, h2, h3, h5⟩ | ⟨es, rfl, h0, h2, h3, h4, h5⟩
  · have l := h2.length
    rw [List.length_map] at l
    rcases Bool.or_eq_true_iff.mp ok with ok | ok
    · obtain ⟨kk, rfl⟩ := si_key ry (Bool.and_eq_true_iff.mp ok).1
      obtain ⟨p1, p2⟩ := dk_put h2 h3 ry rz
      exact ⟨_, .inl ⟨kvs, kk, rfl, hD, by omega, rfl⟩, .inl ⟨_, rfl, p1, p2, by have := length_putK kvs kk z; omega⟩⟩
    · obtain ⟨z1, z2⟩ := Bool.and_eq_true_iff.mp ok
      obtain ⟨ds, kk, e1, e2, dp⟩ := isTup_key z1
      obtain ⟨b, nk⟩ := tup_nkey s ry ⟨ds, e1⟩ e2 dp
      have eb := nk.v
      subst eb
      cases kvs with
      | nil =>
        cases h2
        cases h3
        obtain ⟨p1, p2, p3⟩ := dn_put (es := []) (ks := []) (vs := []) .nil rfl .nil ry e2 rz
        exact ⟨_, .inr ⟨[], b, kk, .none hD, fun e he => absurd he (by simp), nk, by simpa using hl, rfl⟩, .inr ⟨_, rfl, nPut_ne, p1, p2, p3, by have := nPut_len (es := []) (k := kk) (b := b) (v := z); simp at this; have := bigOne; omega⟩⟩
      | cons p0 kvs =>
        cases h2 with
        | @cons _ _ d' ds' r1 t1 =>
          have := (List.all_eq_true.mp z2) d' List.mem_cons_self
          obtain ⟨_, _, e3, _⟩ := isTup_key this
          subst e3
          obtain ⟨k0, v0⟩ := p0
          cases k0 <;> cases r1
  · have l := h2.length
    rw [List.length_map] at l
    rcases Bool.or_eq_true_iff.mp ok with ok | ok
    · obtain ⟨z1, z2⟩ := Bool.and_eq_true_iff.mp ok
      cases es with
      | nil => exact absurd rfl h0
      | cons p0 es =>
        cases h2 with
        | @cons _ _ d' ds' r1 t1 =>
          have z3 := (List.all_eq_true.mp z2) d' List.mem_cons_self
          cases r1 <;> cases z3
    · obtain ⟨z1, z2⟩ := Bool.and_eq_true_iff.mp ok
      obtain ⟨ds, kk, e1, e2, dp⟩ := isTup_key z1
      obtain ⟨b, nk⟩ := tup_nkey s ry ⟨ds, e1⟩ e2 dp
      have eb := nk.v
      subst eb
      obtain ⟨p1, p2, p3⟩ := dn_put h2 h3 h4 ry e2 rz
      exact ⟨_, .inr ⟨es, b, kk, .full hD, keys_at s h2 h3, nk, by omega, rfl⟩, .inr ⟨_, rfl, nPut_ne, p1, p2, p3, by have := nPut_len (es := es) (k := kk) (b := b) (v := z); omega⟩⟩
theorem dput_len {ks vs : List D} {k v : D} (h : ks.length = vs.length) : (dputD ks vs k v).1.length = (dputD ks vs k v).2.length ∧ (dputD ks vs k v).1.length ≤ ks.length + 1 := by
  unfold dputD
  split
  · exact ⟨by simp [h], by simp⟩
  · exact ⟨by simp [h], by simp⟩
end
end WW
set_option maxHeartbeats 1000000
namespace WW
open PySem PySem.Spec PyProof.Rows L2
abbrev Stp := En → List D → List D → M (List D × List D)
def dcF (ρ0 : En) (b : Bd) (t : Tx) (stp : Stp) : List D → List D → List D → M (List D × List D)
  | [], ks, vs => M.ret (ks, vs)
  | x :: xs, ks, vs => match b x ρ0 with
    | none => M.fail
    | some ρ => t ρ >>= fun z => if z = true then stp ρ ks vs >>= fun r => dcF ρ0 b t stp xs r.1 r.2 else dcF ρ0 b t stp xs ks vs
def stp1 (kx vx : Ex) : Stp := fun ρ ks vs => kx ρ >>= fun k => vx ρ >>= fun v => if (keyOk ks k && decide (ks.length < sizeLine)) = true then M.ret (dputD ks vs k v) else M.fail
def stp2 (src : Sr) (b : Bd) (t : Tx) (kx vx : Ex) (vs1 : List Nat) : Stp := fun ρ ks vs => if okW ρ vs1 = true then src ρ >>= fun ys => dcF (wipeE ρ vs1) b t (stp1 kx vx) ys ks vs else M.fail
abbrev Oy := En → M (List D × List D)
def yDc (src : Sr) (b : Bd) (t : Tx) (stp : Stp) (vs : List Nat) : Oy := fun ρ => if okW ρ vs = true then src ρ >>= fun xs => noX (dcF (wipeE ρ vs) b t stp xs [] []) else M.fail
def yNew : Oy := fun _ => M.ret ([], [])
def dOwnD (f : Oy) : Ex := fun ρ => f ρ >>= fun r => M.ret (.dct r.1 r.2)
structure FreshD (c : Cfg) (e : Gh) (L : List (List Addr)) (G H : Hp) (σ : L2.St) (ρ : En) (p : Addr) (ks vs : List D) : Prop where
  at_ : ∃ o, H p = some o ∧ DRep c L G p o ks vs
  g : G p = none
  l : p ∉ L.flatten
  l0 : p ∉ e.L0.flatten
  h0 : e.H0 p = none
  xo : ∀ q ∈ e.xo, q.1 ≠ p
  sl : ∀ (i : Nat) (sv : SV), ρ[i]? = some (some sv) → Own sv → σ[i]? ≠ some (some (.ref p))
def tY (c : Cfg) (W : WX) (f : Oy) : TE := fun σ H Q => ∃ e L T G ρ, Sta c e L T G H σ ρ ∧ match f ρ T with
  | .ok r T' => ∀ p L' G' H', LE L L' → Same G G' → Sta c e L' T' G' H' σ ρ → FreshD c e L' G' H' σ ρ p r.1 r.2 → Q (.ref p) H'
  | .exn k T' => ∀ L' G' H', LE L L' → Same G G' → Sta c e L' T' G' H' σ ρ → W (.ref (c.CA k)) none σ H'
  | .bad => False
theorem dcF_ok {ρ0 : En} {b : Bd} {t : Tx} {stp : Stp} {x : D} {xs ks vs : List D} {r : List D × List D} {T T' : List Cell} (h : dcF ρ0 b t stp (x :: xs) ks vs T = .ok r T') : ∃ ρ1 z Tz, b x ρ0 = some ρ1 ∧ t ρ1 T = .ok z Tz ∧
    ((z = true ∧ ∃ r1 T1, stp ρ1 ks vs Tz = .ok r1 T1 ∧ dcF ρ0 b t stp xs r1.1 r1.2 T1 = .ok r T') ∨ (z = false ∧ dcF ρ0 b t stp xs ks vs Tz = .ok r T')) := by
  unfold dcF at h
  cases hb : b x ρ0 with
  | none => rw [hb] at h; cases h
  | some ρ1 =>
    rw [hb] at h
    obtain ⟨z, Tz, h1, h2⟩ := bind_ok h
    refine ⟨ρ1, z, Tz, rfl, h1, ?_⟩
    cases z with
    | false => exact .inr ⟨rfl, h2⟩
    | true =>
      obtain ⟨r1, T1, h3, h4⟩ := bind_ok h2
      exact .inl ⟨rfl, r1, T1, h3, h4⟩
/-- behind a block, the thing kept apart may have changed -/
theorem Sta.backx {c : Cfg} {e : Gh} {q q' : Addr × HO} {σ σ2 : L2.St} {ρ ρ2 : En} {L LL : List (List Addr)} {G H G2 H2 : Hp} {T T2 : List Cell} {vs : List Nat} (S : Sta c (e.add q) L T G H σ ρ) (S2 : Sta c (e.add q') LL T2 G2 H2 σ2 ρ2) (hL : LE L LL) (hG : Same G G2)
    (ok : okW ρ vs = true) (hσ : ∀ j, j ∉ vs → σ2[j]? = σ[j]?) (hρ : ∀ j, j ∉ vs → ρ2[j]? = ρ[j]?) : Sta c (e.add q') LL T2 G2 H2 σ ρ := by
  have S' := S.delx
  have B := S'.back S2.delx rfl hL hG ok hσ hρ
  obtain ⟨k1, k2, k3, k4, k5, k6⟩ := S2.hadx
  refine B.addx k1 k2 k3 k4 k5 fun i sv h ow => ?_
  have z := okW_out ok h ow
  rw [← hσ i z]
  exact k6 i sv (by rw [hρ i z]; exact h) ow
section
variable {c : Cfg} {e : Gh} {D0 : Addr} {b : Bd} {t : Tx} {stp : Stp} {is vs0 : List Nat} {σ : L2.St} {ρ : En} {J : It}
/-- one loop of a dict comprehension -/
theorem dloop {L0 : List (List Addr)} {T0 T2 : List Cell} {G0 H1 : Hp} {o0 : HO} {ks0 vs0' KS VS xs : List D} {TR : L2.St → Hp → (Hp → Prop) → Prop} {END : Hp → Prop} (hb : BdOk b is) (hv : ∀ i ∈ is, i ∈ vs0) (ok : okW ρ vs0 = true)
    (S0 : Sta c (e.add (D0, o0)) L0 T0 G0 H1 σ ρ) (dr0 : DRep c L0 G0 D0 o0 ks0 vs0') (wk : Wk c L0 G0 J xs) (hrun : dcF (wipeE ρ vs0) b t stp xs ks0 vs0' T0 = .ok (KS, VS) T2)
    (hTR : ∀ (L : List (List Addr)) (T : List Cell) (G H : Hp) (σ2 : L2.St) (ρ2 : En) (o : HO) (ks vs ks' vs' : List D) (T' : List Cell) (Nx : Hp → Prop), Sta c (e.add (D0, o)) L T G H σ2 ρ2 → DRep c L G D0 o ks vs → stp ρ2 ks vs T = .ok (ks', vs') T' →
      (∀ (L' : List (List Addr)) (G' H' : Hp) (o' : HO), LE L L' → Same G G' → Sta c (e.add (D0, o')) L' T' G' H' σ2 ρ2 → DRep c L' G' D0 o' ks' vs' → Nx H') → TR σ2 H Nx)
    (hE : ∀ (L : List (List Addr)) (G H : Hp) (o : HO), LE L0 L → Same G0 G → Sta c (e.add (D0, o)) L T2 G H σ ρ → DRep c L G D0 o KS VS → END H) :
    ∃ Z : Nat → Nat → Hp → Prop, (∃ m, Z 0 m H1) ∧ ∀ i m H, Z i m H → (J.stop i H ∧ END H) ∨ (J.go i H ∧ ∃ Nx : Hp → Prop, (∀ H', Nx H' → ∃ m', m' < m ∧ Z (i + 1) m' H') ∧ ∀ x H', J.yld i H x H' → gD c is b x (L2.wipe σ vs0) H' fun σ2 H2 => L2.wipe σ2 vs0 = L2.wipe σ vs0 ∧
      tT c W0 t σ2 H2 fun z H3 => if z = true then TR σ2 H3 Nx else Nx H3) := by
  refine ⟨fun i m H => m = xs.length - i ∧ i ≤ xs.length ∧ ∃ L T G o ks vs, Sta c (e.add (D0, o)) L T G H σ ρ ∧ LE L0 L ∧ Same G0 G ∧ DRep c L G D0 o ks vs ∧ dcF (wipeE ρ vs0) b t stp (xs.drop i) ks vs T = .ok (KS, VS) T2,
    ⟨xs.length, by simp, Nat.zero_le _, L0, T0, G0, o0, ks0, vs0', S0, LE.refl _, Same.refl _, dr0, by simpa using hrun⟩, ?_⟩
  rintro i m H ⟨rfl, hi, L, T, G, o, ks, vs, S, l1, g1, dr, hl⟩
  have w := wk _ L T G H σ ρ l1 g1 S i hi
  by_cases lt : i < xs.length
  · have hx : xs[i]? = some xs[i] := List.getElem?_eq_getElem lt
    obtain ⟨go, yl⟩ := w.1 _ hx
    rw [List.drop_eq_getElem_cons lt] at hl
    obtain ⟨ρ1, z, Tz, hb1, ht, alt⟩ := dcF_ok hl
    obtain ⟨bl, bo⟩ := hb _ _ _ hb1
    have bo' : ∀ j, j ∉ vs0 → ρ1[j]? = ρ[j]? := fun j hj => by rw [bo j fun z => hj (hv j z), wipeE_get, if_neg (fun q => hj q.1)]
    refine .inr ⟨go, fun H' => i + 1 ≤ xs.length ∧ ∃ L T G o ks vs, Sta c (e.add (D0, o)) L T G H' σ ρ ∧ LE L0 L ∧ Same G0 G ∧ DRep c L G D0 o ks vs ∧ dcF (wipeE ρ vs0) b t stp (xs.drop (i + 1)) ks vs T = .ok (KS, VS) T2, fun H' q => ⟨xs.length - (i + 1), by omega, rfl, q⟩, fun v H2 y => ?_⟩
    obtain ⟨G2, g2, S2, rv⟩ := yl v H2 y
    refine ⟨_, L, T, G2, wipeE ρ vs0, xs[i], S2.wipe vs0, rv, ?_⟩
    rw [hb1]
    intro σ1 S3 so
    have so' : ∀ j, j ∉ vs0 → σ1[j]? = σ[j]? := fun j hj => by rw [so j fun z => hj (hv j z), wipe_get, if_neg (fun q => hj q.1)]
    have sl : σ1.length = σ.length := by rw [S3.len, bl, wipeE_length, S2.len]
    refine ⟨wipe_eq sl so', _, L, T, G2, ρ1, S3, ?_⟩
    rw [ht]
    intro z' L3 G3 H3 l3 g3 S4 ez
    subst ez
    rcases alt with ⟨rfl, ⟨ks1, vs1⟩, T1, hs1, hr⟩ | ⟨rfl, hr⟩
    · rw [if_pos rfl]
      refine hTR L3 Tz G3 H3 σ1 ρ1 o ks vs ks1 vs1 T1 _ S4 (dr.mono l3 (g2.trans g3)) hs1 fun L4 G4 H4 o4 l4 g4 S5 dr5 => ?_
      exact ⟨by omega, L4, T1, G4, o4, ks1, vs1, S2.backx S5 (l3.trans l4) (g3.trans g4) ok so' bo', l1.trans (l3.trans l4), g1.trans (g2.trans (g3.trans g4)), dr5, hr⟩
    · rw [if_neg (by simp)]
      exact ⟨by omega, L3, _, G3, o, ks, vs, S2.backx S4 l3 g3 ok so' bo', l1.trans l3, g1.trans (g2.trans g3), dr.mono l3 (g2.trans g3), hr⟩
  · have e1 : i = xs.length := by omega
    refine .inl ⟨w.2 (by simp [e1]), ?_⟩
    rw [e1, List.drop_length] at hl
    cases hl
    exact hE L G H o l1 g1 S dr
end
end WW
set_option maxHeartbeats 1000000
namespace WW
open PySem PySem.Spec PyProof.Rows L2
section
variable {c : Cfg} {e : Gh} {D0 : Addr} {L : List (List Addr)} {T T' : List Cell} {G H : Hp} {σ2 : L2.St} {ρ2 : En} {o : HO} {ks vs ks' vs' : List D} {kx vx : Ex} {Nx : Hp → Prop}
theorem trset_end (hx : ∀ q ∈ e.xo, q.1 ≠ D0) (S : Sta c (e.add (D0, o)) L T G H σ2 ρ2) (dr : DRep c L G D0 o ks vs) (hr : stp1 kx vx ρ2 ks vs T = .ok (ks', vs') T')
    (K : ∀ (L' : List (List Addr)) (G' H' : Hp) (o' : HO), LE L L' → Same G G' → Sta c (e.add (D0, o')) L' T' G' H' σ2 ρ2 → DRep c L' G' D0 o' ks' vs' → Nx H') : trSet c.P c.w c.K (tD c W0 kx) (tD c W0 vx) D0 σ2 H Nx := by
  obtain ⟨k, T1, h1, h2⟩ := bind_ok hr
  obtain ⟨v, T3, h3, h4⟩ := bind_ok h2
  by_cases z : (keyOk ks k && decide (ks.length < sizeLine)) = true
  · rw [if_pos z] at h4
    have e1 : dputD ks vs k v = (ks', vs') := by injection h4
    have e2 : T3 = T' := by injection h4
    subst e2
    simp only [Bool.and_eq_true, decide_eq_true_eq] at z
    refine ⟨_, L, T, G, ρ2, S, ?_⟩
    rw [h1]
    intro y L3 G3 H3 l3 g3 S3 ry
    refine ⟨_, L3, T1, G3, ρ2, S3, ?_⟩
    rw [h3]
    intro zz L4 G4 H4 l4 g4 S4 rz
    obtain ⟨o', st, dr'⟩ := drep_put S4.subS S4.hadx.1 (dr.mono (l3.trans l4) (g3.trans g4)) (ry.up l4 g4) rz z.1 z.2
    rw [e1] at dr'
    exact ⟨_, st, K L4 G4 _ o' (l3.trans l4) (g3.trans g4) (S4.setx hx) dr'⟩
  · rw [if_neg z] at h4; cases h4
theorem trin_end {src : Sr} {b : Bd} {t : Tx} {is vs1 : List Nat} (hb : BdOk b is) (hv : ∀ i ∈ is, i ∈ vs1) (hx : ∀ q ∈ e.xo, q.1 ≠ D0) (S : Sta c (e.add (D0, o)) L T G H σ2 ρ2) (dr : DRep c L G D0 o ks vs) (hr : stp2 src b t kx vx vs1 ρ2 ks vs T = .ok (ks', vs') T')
    (K : ∀ (L' : List (List Addr)) (G' H' : Hp) (o' : HO), LE L L' → Same G G' → Sta c (e.add (D0, o')) L' T' G' H' σ2 ρ2 → DRep c L' G' D0 o' ks' vs' → Nx H') :
    trIn (tI c W0 src) (gD c is b) (tT c W0 t) (trSet c.P c.w c.K (tD c W0 kx) (tD c W0 vx)) vs1 D0 σ2 H Nx := by
  unfold stp2 at hr
  by_cases ok : okW ρ2 vs1 = true
  · rw [if_pos ok] at hr
    obtain ⟨ys, T1, h1, h2⟩ := bind_ok hr
    refine ⟨_, L, T, G, ρ2, S, ?_⟩
    rw [h1]
    intro J L3 G3 H3 l3 g3 S3 wk hz
    refine dloop hb hv ok S3 (dr.mono l3 g3) wk h2 (fun L T G H σ ρ o ks vs ks' vs' T' Nx S dr hr K => trset_end hx S dr hr K) fun L4 G4 H4 o4 l4 g4 S4 dr4 => K L4 G4 H4 o4 (l3.trans l4) (g3.trans g4) S4 dr4
  · rw [if_neg ok] at hr; cases hr
end
section
variable {c : Cfg} {W : WX} {src : Sr} {b : Bd} {t : Tx} {stp : Stp} {is vs : List Nat} {σ : L2.St} {H : Hp} {Q : VK} {tr : Addr → L2.St → Hp → (Hp → Prop) → Prop}
theorem dc_end (hb : BdOk b is) (hv : ∀ i ∈ is, i ∈ vs) (q : tY c W (yDc src b t stp vs) σ H Q)
    (hT : ∀ (e : Gh) (D0 : Addr), (∀ q ∈ e.xo, q.1 ≠ D0) → ∀ (L : List (List Addr)) (T : List Cell) (G H : Hp) (σ2 : L2.St) (ρ2 : En) (o : HO) (ks vs ks' vs' : List D) (T' : List Cell) (Nx : Hp → Prop), Sta c (e.add (D0, o)) L T G H σ2 ρ2 → DRep c L G D0 o ks vs → stp ρ2 ks vs T = .ok (ks', vs') T' →
      (∀ (L' : List (List Addr)) (G' H' : Hp) (o' : HO), LE L L' → Same G G' → Sta c (e.add (D0, o')) L' T' G' H' σ2 ρ2 → DRep c L' G' D0 o' ks' vs' → Nx H') → tr D0 σ2 H Nx) : tDcG (tI c W src) (gD c is b) (tT c W0 t) tr vs σ H Q := by
  obtain ⟨e, L, T, G, ρ, S, p⟩ := q
  refine ⟨e, L, T, G, ρ, S, ?_⟩
  unfold yDc at p
  by_cases ok : okW ρ vs = true
  · rw [if_pos ok] at p
    cases hr : src ρ T with
    | bad => rw [bnd_bad hr] at p; exact p
    | exn k T' => rw [bnd_exn hr] at p; exact p
    | ok xs T0 =>
      rw [bnd_ok hr] at p
      intro J L0 G0 H0 l0 g0 S0 wk hz D hD
      cases hr2 : noX (dcF (wipeE ρ vs) b t stp xs [] []) T0 with
      | bad => rw [hr2] at p; exact p.elim
      | exn k T' => unfold noX at hr2; cases q2 : dcF (wipeE ρ vs) b t stp xs [] [] T0 <;> rw [q2] at hr2 <;> cases hr2
      | ok r T2 =>
        rw [hr2] at p
        have all := noX_ok hr2
        have nx := S0.notx hD
        have S1 : Sta c (e.add (D, .dK [])) L0 T0 G0 (upd H0 D (.dK [])) σ ρ := (S0.grow hD).addx upd_same (S0.gnone hD) (S0.notcell hD) (S0.notcell0 hD) (S0.h0none hD (S0.notcell hD) (S0.notcell0 hD)) (S0.notslot hD)
        refine dloop (END := fun H => Q (.ref D) H) hb hv ok S1 (.inl ⟨[], rfl, .nil, .nil, Nat.zero_le _⟩) wk all (fun L T G H σ2 ρ2 o ks vs ks' vs' T' Nx => hT e D nx L T G H σ2 ρ2 o ks vs ks' vs' T' Nx) fun L4 G4 H4 o4 l4 g4 S4 dr4 => ?_
        obtain ⟨k1, k2, k3, k4, k5, k6⟩ := S4.hadx
        exact p D L4 G4 H4 (l0.trans l4) (g0.trans g4) S4.delx ⟨⟨o4, k1, dr4⟩, k2, k3, k4, k5, nx, k6⟩
  · rw [if_neg ok] at p; exact p.elim
end
section
variable {X : Cx} {c : Cfg} {W : WX} {k : Nat} {src src1 : Sr} {b b1 : Bd} {t t1 : Tx} {fk fv : Ex} {is is1 : List Nat} {kx vx tg it tg1 it1 : Expr} {ifs ifs1 : List Expr} {scope : Scope} {pos : Pos}
/-- {k: v for tg in it if ..} -/
theorem dy_dc (own : List (Str × Nat)) (h : Ctx X c W k) (hi : PI X tg it (tI c W src)) (ok : BlkOk X.N X.env.scope scope own) (hb : BdOk b is) (hv : ∀ i ∈ is, i ∈ own.map (·.2))
    (hin : ∀ (s : Shared) (H : Hp) (C : Addr) (cl : List (Str × Addr)) (fp : List Addr), Ctx (X.blk s H scope (compEnvC scope cl C X.env) fp) c W0 k →
      PG (X.blk s H scope (compEnvC scope cl C X.env) fp) tg (gD c is b) ∧ PTs (X.blk s H scope (compEnvC scope cl C X.env) fp) ifs (tT c W0 t) ∧ PE (X.blk s H scope (compEnvC scope cl C X.env) fp) kx (tD c W0 fk) ∧ PE (X.blk s H scope (compEnvC scope cl C X.env) fp) vx (tD c W0 fv))
    (hs : ∀ x, foldedSetIterable it X.env x = pure x := by intro _; rfl) : PE X (.DictComp kx vx [⟨tg, it, ifs, 0⟩] scope pos) (tY c W (yDc src b t (stp1 fk fv) (own.map (·.2)))) := by
  refine (pe_dcA h.u9 h.calm h.nd hi ok (fun s H C cl fp => (hin s H C cl fp (h.blk ..)).1) (fun s H C cl fp => (hin s H C cl fp (h.blk ..)).2.1) (fun s H C cl fp => (hin s H C cl fp (h.blk ..)).2.2.1) (fun s H C cl fp => (hin s H C cl fp (h.blk ..)).2.2.2) hs).imp fun σ H Q q => ?_
  rw [h.hK, h.hP, h.hw]
  exact dc_end hb hv q fun e D0 hx L T G H σ2 ρ2 o ks vs ks' vs' T' Nx S dr hr K => trset_end hx S dr hr K
/-- {k: v for tg in it if .. for tg1 in it1 if ..} -/
theorem dy_dc2 (own : List (Str × Nat)) (vs1 : List Nat) (h : Ctx X c W k) (hi : PI X tg it (tI c W src)) (ok : BlkOk X.N X.env.scope scope own) (hb : BdOk b is) (hv : ∀ i ∈ is, i ∈ own.map (·.2)) (hb1 : BdOk b1 is1) (hv1 : ∀ i ∈ is1, i ∈ vs1) (hvs : ∀ i ∈ vs1, i ∈ own.map (·.2))
    (hin : ∀ (s : Shared) (H : Hp) (C : Addr) (cl : List (Str × Addr)) (fp : List Addr), Ctx (X.blk s H scope (compEnvC scope cl C X.env) fp) c W0 k →
      PG (X.blk s H scope (compEnvC scope cl C X.env) fp) tg (gD c is b) ∧ PTs (X.blk s H scope (compEnvC scope cl C X.env) fp) ifs (tT c W0 t) ∧ PI (X.blk s H scope (compEnvC scope cl C X.env) fp) tg1 it1 (tI c W0 src1) ∧
      PG (X.blk s H scope (compEnvC scope cl C X.env) fp) tg1 (gD c is1 b1) ∧ PTs (X.blk s H scope (compEnvC scope cl C X.env) fp) ifs1 (tT c W0 t1) ∧
      PE (X.blk s H scope (compEnvC scope cl C X.env) fp) kx (tD c W0 fk) ∧ PE (X.blk s H scope (compEnvC scope cl C X.env) fp) vx (tD c W0 fv))
    (hs : ∀ x, foldedSetIterable it X.env x = pure x := by intro _; rfl) (hs1 : ∀ env x, foldedSetIterable it1 env x = pure x := by intro _ _; rfl) :
    PE X (.DictComp kx vx [⟨tg, it, ifs, 0⟩, ⟨tg1, it1, ifs1, 0⟩] scope pos) (tY c W (yDc src b t (stp2 src1 b1 t1 fk fv vs1) (own.map (·.2)))) := by
  refine (pe_dcA2 h.u9 h.calm h.nd hi ok hvs (fun s H C cl fp => (hin s H C cl fp (h.blk ..)).1) (fun s H C cl fp => (hin s H C cl fp (h.blk ..)).2.1) (fun s H C cl fp => (hin s H C cl fp (h.blk ..)).2.2.1) (fun s H C cl fp => (hin s H C cl fp (h.blk ..)).2.2.2.1) (fun s H C cl fp => (hin s H C cl fp (h.blk ..)).2.2.2.2.1)
    (fun s H C cl fp => (hin s H C cl fp (h.blk ..)).2.2.2.2.2.1) (fun s H C cl fp => (hin s H C cl fp (h.blk ..)).2.2.2.2.2.2) hs hs1).imp fun σ H Q q => ?_
  rw [h.hK, h.hP, h.hw]
  exact dc_end hb hv q fun e D0 hx L T G H σ2 ρ2 o ks vs ks' vs' T' Nx S dr hr K => trin_end hb1 hv1 hx S dr hr K
/-- {} -/
theorem dy_new (h : Ctx X c W k) : PE X (.Dict [] [] pos) (tY c W yNew) := pe_dnewK.imp fun σ H Q ⟨e, L, T, G, ρ, S, p⟩ q hq =>
  p q L G _ (LE.refl _) (Same.refl _) (S.grow hq) ⟨⟨_, upd_same, .inl ⟨[], rfl, .nil, .nil, Nat.zero_le _⟩⟩, S.gnone hq, S.notcell hq, S.notcell0 hq, S.h0none hq (S.notcell hq) (S.notcell0 hq), S.notx hq, S.notslot hq⟩
theorem pe_hold {a : Expr} {te : TE} (h : PE X a te) : PE X a (fun σ H Q => te σ H fun v H1 => ∃ p u, v = .ref p ∧ H1 p = some u ∧ Mut (some u) ∧ ∀ ob, Q v (upd H1 p (.frz ob u))) := by
  refine ⟨fun pn s σ H Q I hh => ?_⟩
  refine thn (h.run pn s σ H _ I hh) fun v s1 ⟨x, H1, I1, rx, p, u, ex, hp, mu, q⟩ => ?_
  obtain ⟨ob, I2⟩ := I1.lock hp mu
  exact ⟨x, _, I2, rx, q ob⟩
/-- a fresh dict becomes plain data -/
theorem de_ownD {a : Expr} {f : Oy} (h : PE X a (tY c W f)) : PE X a (tD c W (dOwnD f)) := (pe_hold h).imp fun σ H Q q => by
  obtain ⟨e, L, T, G, ρ, S, p⟩ := q
  refine ⟨e, L, T, G, ρ, S, ?_⟩
  unfold dOwnD at p
  cases hr : f ρ T with
  | bad => rw [bnd_bad hr] at p; exact p
  | exn k T' => rw [bnd_exn hr] at p; exact p
  | ok r T' =>
    rw [bnd_ok hr] at p
    intro q L' G' H' h1 h2 S' fr
    obtain ⟨o, ho, dr⟩ := fr.at_
    have mu : Mut (some o) := by rcases dr with ⟨kvs, rfl, _⟩ | ⟨es, rfl, _⟩ <;> trivial
    refine ⟨q, o, rfl, ho, mu, fun ob => ?_⟩
    have gs := same_upd (o := .frz ob o) fr.g
    have S2 := (S'.hset (o' := .frz ob o) fr.g fr.l fr.h0 fr.xo fr.sl).freeze (o := .frz ob o) upd_same fr.g fr.l fr.l0 fr.h0 fr.xo fr.sl
    exact p _ L' _ _ h1 (h2.trans gs) S2 ((dr.mono (LE.refl _) gs).rep upd_same)
end
end WW
set_option maxHeartbeats 1000000
namespace WW
open PySem PySem.Spec PyProof.Rows L2
def DcRun (X : Cx) (kx vx tg iter : Expr) (ifs : List Expr) (rest : List Comprehension) (scope : Scope) (pos : Pos) (t : TE) : Prop := ∀ (pn : List (Addr × Obj)) (s : Shared) (σ : L2.St) (H : Hp) (Q : VK) (pos' : Pos) (use : Option (Value → Sem Unit)) (Qf : Value → Shared → Prop), Inv X pn σ H s → t σ H Q →
  (∀ D C s' m H', Inv X pn σ H' s' → Q (.ref D) H' → s'.heap.Ns C m → FpOk X pn H' C → compPost (model X.prog X.w) X.A X.xe use Qf (.ref D) C (.ok .next) s') →
  wpAny (model X.prog X.w) X.A (comprehension (.DictComp kx vx (⟨tg, iter, ifs, 0⟩ :: rest) scope pos) scope X.env pos' newDict false (eval iter X.env) use) Qf X.xe s
section
variable {X : Cx} {kx vx tg iter tg1 iter1 : Expr} {ifs ifs1 : List Expr} {rest : List Comprehension} {scope : Scope} {own : List (Str × Nat)} {pos : Pos} {wi wi1 : TI} {g g1 : TG} {tt tt1 : TT} {tk tv : TE} {vs1 : List Nat}
theorem DcRun.imp {t t' : TE} (h : DcRun X kx vx tg iter ifs rest scope pos t) (i : ∀ σ H Q, t' σ H Q → t σ H Q) : DcRun X kx vx tg iter ifs rest scope pos t' := fun pn s σ H Q p' use Qf I q => h pn s σ H Q p' use Qf I (i σ H Q q)
theorem run_dcA (hu : X.A.units + 9 < cLine) (hc : X.calm = true) (hN : X.N.Nodup) (hi : PI X tg iter wi) (ok : BlkOk X.N X.env.scope scope own)
    (hg : ∀ (s : Shared) (H : Hp) (C : Addr) (cl : List (Str × Addr)) (fp : List Addr), PG (X.blk s H scope (compEnvC scope cl C X.env) fp) tg g)
    (ht : ∀ (s : Shared) (H : Hp) (C : Addr) (cl : List (Str × Addr)) (fp : List Addr), PTs (X.blk s H scope (compEnvC scope cl C X.env) fp) ifs tt)
    (hk : ∀ (s : Shared) (H : Hp) (C : Addr) (cl : List (Str × Addr)) (fp : List Addr), PE (X.blk s H scope (compEnvC scope cl C X.env) fp) kx tk)
    (hv : ∀ (s : Shared) (H : Hp) (C : Addr) (cl : List (Str × Addr)) (fp : List Addr), PE (X.blk s H scope (compEnvC scope cl C X.env) fp) vx tv) (hs : ∀ x, foldedSetIterable iter X.env x = pure x) :
    DcRun X kx vx tg iter ifs [] scope pos (tDcG wi g tt (trSet X.prog X.w X.K tk tv) (own.map (·.2))) := fun pn s σ H Q pos' use Qf I h hend =>
  dcg_core (act := fun D en => actSet (model X.prog X.w) X.A kx vx D en) hc hN I hi ok hg ht (fun s H C D cl fp => act_set (Y := X.blk s H scope (compEnvC scope cl C X.env) fp) hu rfl (hk s H C cl fp) (hv s H C cl fp)) (fun R it D C cl Z n s tn h0 => loop_set1 rfl Z tn n h0) hs h hend
theorem run_dcA2 (hu : X.A.units + 9 < cLine) (hc : X.calm = true) (hN : X.N.Nodup) (hi : PI X tg iter wi) (ok : BlkOk X.N X.env.scope scope own) (hvs : ∀ i ∈ vs1, i ∈ own.map (·.2))
    (hg : ∀ (s : Shared) (H : Hp) (C : Addr) (cl : List (Str × Addr)) (fp : List Addr), PG (X.blk s H scope (compEnvC scope cl C X.env) fp) tg g)
    (ht : ∀ (s : Shared) (H : Hp) (C : Addr) (cl : List (Str × Addr)) (fp : List Addr), PTs (X.blk s H scope (compEnvC scope cl C X.env) fp) ifs tt)
    (hi1 : ∀ (s : Shared) (H : Hp) (C : Addr) (cl : List (Str × Addr)) (fp : List Addr), PI (X.blk s H scope (compEnvC scope cl C X.env) fp) tg1 iter1 wi1)
    (hg1 : ∀ (s : Shared) (H : Hp) (C : Addr) (cl : List (Str × Addr)) (fp : List Addr), PG (X.blk s H scope (compEnvC scope cl C X.env) fp) tg1 g1)
    (ht1 : ∀ (s : Shared) (H : Hp) (C : Addr) (cl : List (Str × Addr)) (fp : List Addr), PTs (X.blk s H scope (compEnvC scope cl C X.env) fp) ifs1 tt1)
    (hk : ∀ (s : Shared) (H : Hp) (C : Addr) (cl : List (Str × Addr)) (fp : List Addr), PE (X.blk s H scope (compEnvC scope cl C X.env) fp) kx tk)
    (hv : ∀ (s : Shared) (H : Hp) (C : Addr) (cl : List (Str × Addr)) (fp : List Addr), PE (X.blk s H scope (compEnvC scope cl C X.env) fp) vx tv) (hs : ∀ x, foldedSetIterable iter X.env x = pure x)
    (hs1 : ∀ env x, foldedSetIterable iter1 env x = pure x) :
    DcRun X kx vx tg iter ifs [⟨tg1, iter1, ifs1, 0⟩] scope pos (tDcG wi g tt (trIn wi1 g1 tt1 (trSet X.prog X.w X.K tk tv) vs1) (own.map (·.2))) := fun pn s σ H Q pos' use Qf I h hend =>
  dcg_core (act := fun D en => actIn (model X.prog X.w) X.A (dcx kx vx tg iter tg1 iter1 ifs ifs1 scope pos) iter1 (.ref D) en) hc hN I hi ok hg ht
    (fun s H C D cl fp => act_in (Y := X.blk s H scope (compEnvC scope cl C X.env) fp) hc rfl hvs (hi1 s H C cl fp) (hg1 s H C cl fp) (ht1 s H C cl fp) (act_set (Y := X.blk s H scope (compEnvC scope cl C X.env) fp) hu rfl (hk s H C cl fp) (hv s H C cl fp)))
    (fun R it D C cl Z n s tn h0 => loop_out (hs1 _) Z tn n h0) hs h hend
theorem DcRun.store {i : Nat} {y : Str} {py spos : Pos} {t : TE} (hr : DcRun X kx vx tg iter ifs rest scope pos t) (hN : X.N.Nodup) (hy : X.N[i]? = some y) (hyl : X.env.scope.names.lookup y = some .local)
    (hsw : swapsWith (.DictComp kx vx (⟨tg, iter, ifs, 0⟩ :: rest) scope pos) (some (.Name y py)) spos.line X.env = pure true) : PS X (.Assign [.Name y py] (.DictComp kx vx (⟨tg, iter, ifs, 0⟩ :: rest) scope pos) spos) (tAsg t (gName i)) := by
  refine ⟨fun pn s σ H D I h => ?_⟩
  rw [exec_Assign_Name_used _ _ _ _ hsw]
  refine wpAny_bind (wpAny_standAt (wpAny_bind ?_))
  show wpAny _ X.A (do let _ ← comprehension (.DictComp kx vx (⟨tg, iter, ifs, 0⟩ :: rest) scope pos) scope X.env (firstIterPos (⟨tg, iter, ifs, 0⟩ :: rest) pos) newDict false (eval iter X.env) (some (assign (.Name y py) X.env))) _ _ s
  have hh : t σ H (fun x H1 => gName i x σ H1 D.nx) := h
  refine wpAny_bind (thn (hr pn s σ H _ _ (some (assign (.Name y py) X.env)) (fun _ s' => SP X pn D .next s') I hh fun d C s' m H' I' q hn f => ?_) fun _ s' g => wpAny_pure (wpAny_pure g))
  show wpAny _ _ (assign (.Name y py) X.env (.ref d)) _ _ _
  refine wpAny_assign_Name (store_ok2 (v := V.ref d) I' hN hy (.inl hyl) rfl (fun s2 I2 ⟨a, sb, ha⟩ => ?_) (.inr hyl))
  obtain ⟨f0, f1, f2, f3, f4, f5⟩ := f
  have ne : C ≠ a := ha.elim (fun z => by rw [z]; exact f1) fun z e => f4 y a z e.symm
  exact ⟨m, hn.sameBut sb ne, fun h3 sb3 => ⟨_, H', I2.turned (t' := s2.toks) (fun b o hb e => (sb3.2 b hb).trans e) f0 f1 f3 f4 f5, q⟩⟩
end
/-- a slot gets a dict of its own -/
theorem Sta.putD {c : Cfg} {e : Gh} {σ : L2.St} {ρ : En} {L : List (List Addr)} {G H : Hp} {T : List Cell} (S : Sta c e L T G H σ ρ) {i : Nat} {p : Addr} {ks vs : List D} (fr : FreshD c e L G H σ ρ p ks vs) : Sta c e L T G H (σ.set i (some (.ref p))) (ρ.set i (some (.od ks vs))) := by
  have ln := S.len
  obtain ⟨o, ho, dr⟩ := fr.at_
  refine ⟨S.sub, S.same, S.store, S.ldist, S.lfree, S.lmem0, S.l0free, S.gnew, S.l0there, S.l0h, by rw [List.length_set, List.length_set, S.len], fun j sv h => ?_, fun q hq => ?_, fun j k x y hjk hj hk ox oy => ?_⟩
  · have h' := h
    rcases get_set h with ⟨rfl, e1⟩ | ⟨hj, h⟩
    · cases e1
      have lt := set_lt h'
      exact ⟨.ref p, by rw [List.getElem?_set_self (by omega)], p, o, rfl, ho, dr, fr.g, fr.l, fr.h0⟩
    · obtain ⟨u, h1, h2⟩ := S.slot j sv h
      exact ⟨u, by rw [List.getElem?_set_ne (Ne.symm hj)]; exact h1, h2⟩
  · obtain ⟨h1, h2, h3, h4, h5, h6⟩ := S.xown q hq
    refine ⟨h1, h2, h3, h4, h5, fun j sv h ow => ?_⟩
    have h' := h
    rcases get_set h with ⟨rfl, e1⟩ | ⟨hj, h⟩
    · have lt := set_lt h'
      rw [List.getElem?_set_self (by omega)]
      intro z
      cases z
      exact fr.xo q hq rfl
    · rw [List.getElem?_set_ne (Ne.symm hj)]; exact h6 j sv h ow
  · have hj' := hj
    have hk' := hk
    rcases get_set hj with ⟨rfl, e1⟩ | ⟨n1, h1⟩
    · have lt := set_lt hj'
      rcases get_set hk with ⟨rfl, e2⟩ | ⟨n2, h2⟩
      · exact absurd rfl hjk
      · rw [List.getElem?_set_self (by omega), List.getElem?_set_ne (Ne.symm n2)]
        exact fun z => fr.sl k y h2 oy z.symm
    · rcases get_set hk with ⟨rfl, e2⟩ | ⟨n2, h2⟩
      · have lt := set_lt hk'
        rw [List.getElem?_set_self (by omega), List.getElem?_set_ne (Ne.symm n1)]
        exact fun z => fr.sl j x h1 ox z
      · rw [List.getElem?_set_ne (Ne.symm n1), List.getElem?_set_ne (Ne.symm n2)]
        exact S.disj j k x y hjk h1 h2 ox oy
def sSetD (i : Nat) (f : Oy) : Sx := fun ρ => f ρ >>= fun r => M.ret (.nx (ρ.set i (some (.od r.1 r.2))))
section
variable {X : Cx} {c : Cfg} {W : WX} {k : Nat} {src src1 : Sr} {b b1 : Bd} {t t1 : Tx} {fk fv : Ex} {is is1 : List Nat} {kx vx tg it tg1 it1 a : Expr} {ifs ifs1 : List Expr} {scope : Scope} {pos pos' py spos : Pos} {x y : Str}
theorem setd_end {fo : Oy} {i : Nat} {D : Ends} {σ : L2.St} {H : Hp} (q : tS c W (sSetD i fo) D σ H) : tY c W fo σ H fun x H1 => gName i x σ H1 D.nx := by
  obtain ⟨e, L, T, G, ρ, S, p⟩ := q
  refine ⟨e, L, T, G, ρ, S, ?_⟩
  unfold sSetD at p
  cases hr : fo ρ T with
  | bad => rw [bnd_bad hr] at p; exact p
  | exn k T' => rw [bnd_exn hr] at p; exact fun L' G' H' h1 h2 S' => p L' G' H' σ ρ h1 h2 S'
  | ok r T' =>
    rw [bnd_ok hr] at p
    exact fun q L' G' H' h1 h2 S' fr => p L' G' H' _ h1 h2 (S'.putD fr)
theorem ds_setD (i : Nat) {fo : Oy} (h : Ctx X c W k) (ha : PE X a (tY c W fo)) (hi : X.N[i]? = some x := by rfl) (hx : Loc X.env.scope x := by first | exact Or.inl rfl | exact Or.inr rfl) (hs : swapsWith a (some (.Name x pos')) pos.line X.env = pure false := by rfl)
    (hf : X.fn x = true ∨ X.env.scope.names.lookup x = some .local := by first | exact .inl rfl | exact .inr rfl) : PS X (.Assign [.Name x pos'] a pos) (tS c W (sSetD i fo)) := (ps_set h.nd hi hx ha hs hf).imp fun D σ H q => setd_end q
/-- name = {..} -/
theorem ds_setDc (i : Nat) (own : List (Str × Nat)) (h : Ctx X c W k) (hi : PI X tg it (tI c W src)) (ok : BlkOk X.N X.env.scope scope own) (hb : BdOk b is) (hv : ∀ i ∈ is, i ∈ own.map (·.2))
    (hin : ∀ (s : Shared) (H : Hp) (C : Addr) (cl : List (Str × Addr)) (fp : List Addr), Ctx (X.blk s H scope (compEnvC scope cl C X.env) fp) c W0 k →
      PG (X.blk s H scope (compEnvC scope cl C X.env) fp) tg (gD c is b) ∧ PTs (X.blk s H scope (compEnvC scope cl C X.env) fp) ifs (tT c W0 t) ∧ PE (X.blk s H scope (compEnvC scope cl C X.env) fp) kx (tD c W0 fk) ∧ PE (X.blk s H scope (compEnvC scope cl C X.env) fp) vx (tD c W0 fv))
    (hy : X.N[i]? = some y := by rfl) (hyl : X.env.scope.names.lookup y = some .local := by rfl) (hsw : swapsWith (.DictComp kx vx [⟨tg, it, ifs, 0⟩] scope pos) (some (.Name y py)) spos.line X.env = pure true := by rfl)
    (hs : ∀ x, foldedSetIterable it X.env x = pure x := by intro _; rfl) : PS X (.Assign [.Name y py] (.DictComp kx vx [⟨tg, it, ifs, 0⟩] scope pos) spos) (tS c W (sSetD i (yDc src b t (stp1 fk fv) (own.map (·.2))))) := by
  refine ((run_dcA h.u9 h.calm h.nd hi ok (fun s H C cl fp => (hin s H C cl fp (h.blk ..)).1) (fun s H C cl fp => (hin s H C cl fp (h.blk ..)).2.1) (fun s H C cl fp => (hin s H C cl fp (h.blk ..)).2.2.1) (fun s H C cl fp => (hin s H C cl fp (h.blk ..)).2.2.2) hs).store h.nd hy hyl hsw).imp fun D σ H q => ?_
  rw [h.hK, h.hP, h.hw]
  exact dc_end hb hv (setd_end q) fun e D0 hx L T G H σ2 ρ2 o ks vs ks' vs' T' Nx S dr hr K => trset_end hx S dr hr K
theorem ds_setDc2 (i : Nat) (own : List (Str × Nat)) (vs1 : List Nat) (h : Ctx X c W k) (hi : PI X tg it (tI c W src)) (ok : BlkOk X.N X.env.scope scope own) (hb : BdOk b is) (hv : ∀ i ∈ is, i ∈ own.map (·.2)) (hb1 : BdOk b1 is1) (hv1 : ∀ i ∈ is1, i ∈ vs1) (hvs : ∀ i ∈ vs1, i ∈ own.map (·.2))
    (hin : ∀ (s : Shared) (H : Hp) (C : Addr) (cl : List (Str × Addr)) (fp : List Addr), Ctx (X.blk s H scope (compEnvC scope cl C X.env) fp) c W0 k →
      PG (X.blk s H scope (compEnvC scope cl C X.env) fp) tg (gD c is b) ∧ PTs (X.blk s H scope (compEnvC scope cl C X.env) fp) ifs (tT c W0 t) ∧ PI (X.blk s H scope (compEnvC scope cl C X.env) fp) tg1 it1 (tI c W0 src1) ∧
      PG (X.blk s H scope (compEnvC scope cl C X.env) fp) tg1 (gD c is1 b1) ∧ PTs (X.blk s H scope (compEnvC scope cl C X.env) fp) ifs1 (tT c W0 t1) ∧
      PE (X.blk s H scope (compEnvC scope cl C X.env) fp) kx (tD c W0 fk) ∧ PE (X.blk s H scope (compEnvC scope cl C X.env) fp) vx (tD c W0 fv))
    (hy : X.N[i]? = some y := by rfl) (hyl : X.env.scope.names.lookup y = some .local := by rfl) (hsw : swapsWith (.DictComp kx vx [⟨tg, it, ifs, 0⟩, ⟨tg1, it1, ifs1, 0⟩] scope pos) (some (.Name y py)) spos.line X.env = pure true := by rfl)
    (hs : ∀ x, foldedSetIterable it X.env x = pure x := by intro _; rfl) (hs1 : ∀ env x, foldedSetIterable it1 env x = pure x := by intro _ _; rfl) :
    PS X (.Assign [.Name y py] (.DictComp kx vx [⟨tg, it, ifs, 0⟩, ⟨tg1, it1, ifs1, 0⟩] scope pos) spos) (tS c W (sSetD i (yDc src b t (stp2 src1 b1 t1 fk fv vs1) (own.map (·.2))))) := by
  refine ((run_dcA2 h.u9 h.calm h.nd hi ok hvs (fun s H C cl fp => (hin s H C cl fp (h.blk ..)).1) (fun s H C cl fp => (hin s H C cl fp (h.blk ..)).2.1) (fun s H C cl fp => (hin s H C cl fp (h.blk ..)).2.2.1) (fun s H C cl fp => (hin s H C cl fp (h.blk ..)).2.2.2.1) (fun s H C cl fp => (hin s H C cl fp (h.blk ..)).2.2.2.2.1)
    (fun s H C cl fp => (hin s H C cl fp (h.blk ..)).2.2.2.2.2.1) (fun s H C cl fp => (hin s H C cl fp (h.blk ..)).2.2.2.2.2.2) hs hs1).store h.nd hy hyl hsw).imp fun D σ H q => ?_
  rw [h.hK, h.hP, h.hw]
  exact dc_end hb hv (setd_end q) fun e D0 hx L T G H σ2 ρ2 o ks vs ks' vs' T' Nx S dr hr K => trin_end hb1 hv1 hx S dr hr K
end
end WW
set_option maxHeartbeats 1000000
namespace WW
open PySem PySem.Spec PyProof.Rows L2
/-- what a slot owns is changed -/
theorem Sta.reown {c : Cfg} {e : Gh} {σ : L2.St} {ρ : En} {L : List (List Addr)} {G H : Hp} {T : List Cell} (S : Sta c e L T G H σ ρ) {i : Nat} {q0 : Addr} {sv0 sv1 : SV} {o : HO} (hρ : ρ[i]? = some (some sv0)) (ow0 : Own sv0) (hσ : σ[i]? = some (some (.ref q0)))
    (hg : G q0 = none) (hl : q0 ∉ L.flatten) (h0 : e.H0 q0 = none) (ow1 : Own sv1) (new : SlotRep c L G (upd H q0 o) e.H0 (.ref q0) sv1) : Sta c e L T G (upd H q0 o) σ (ρ.set i (some sv1)) := by
  have nl0 := S.nl0 h0
  have ne : ∀ {a : Addr} {u : HO}, a ≠ q0 → H a = some u → upd H q0 o a = some u := fun n e => by rw [upd_ne n]; exact e
  refine ⟨fun a u ha => ?_, fun a u ha hl => ?_, S.store.keeps fun a ha u q => ne (fun z => hl (z ▸ ha)) q, S.ldist, S.lfree, S.lmem0, S.l0free, S.gnew, fun a ha => ?_, S.l0h, by rw [List.length_set, S.len], fun j sv h => ?_, fun q hq => ?_, fun j k x y hjk hj hk ox oy => ?_⟩
  · have n : a ≠ q0 := fun z => by rw [z, hg] at ha; cases ha
    rcases S.sub a u ha with z | ⟨z1, ob, z⟩
    · exact .inl (ne n z)
    · exact .inr ⟨z1, ob, ne n z⟩
  · have n : a ≠ q0 := fun z => by rw [z, h0] at ha; cases ha
    obtain ⟨z1, z2⟩ := S.same a u ha hl
    refine ⟨fun m => ne n (z1 m), fun m => ?_⟩
    obtain ⟨ob, z⟩ := z2 m
    exact ⟨ob, ne n z⟩
  · rw [upd_ne (show a ≠ q0 from fun z => nl0 (z ▸ ha))]
    exact S.l0there a ha
  · rcases get_set h with ⟨rfl, e1⟩ | ⟨hj, h⟩
    · cases e1
      exact ⟨.ref q0, hσ, new⟩
    · obtain ⟨w, w1, w2⟩ := S.slot j sv h
      refine ⟨w, w1, ?_⟩
      cases sv with
      | d x => exact w2
      | ol es =>
        obtain ⟨q, us, rfl, y1, y2⟩ := w2
        have n : q ≠ q0 := fun z => S.disj j i _ _ hj h hρ trivial ow0 (by rw [w1, hσ, z])
        exact ⟨q, us, rfl, ne n y1, y2⟩
      | od ks us =>
        obtain ⟨q, u, rfl, y1, y2⟩ := w2
        have n : q ≠ q0 := fun z => S.disj j i _ _ hj h hρ trivial ow0 (by rw [w1, hσ, z])
        exact ⟨q, u, rfl, ne n y1, y2⟩
  · obtain ⟨w1, w2, w3, w4, w5, w6⟩ := S.xown q hq
    have n : q.1 ≠ q0 := fun z => w6 i _ hρ ow0 (by rw [hσ, z])
    refine ⟨ne n w1, w2, w3, w4, w5, fun j sv h ow => ?_⟩
    rcases get_set h with ⟨rfl, e1⟩ | ⟨hj, h⟩
    · rw [hσ]; exact fun z => n (by cases z; rfl)
    · exact w6 j sv h ow
  · rcases get_set hj with ⟨rfl, e1⟩ | ⟨n1, y1⟩
    · rcases get_set hk with ⟨rfl, e2⟩ | ⟨n2, y2⟩
      · exact absurd rfl hjk
      · exact S.disj _ k _ y (Ne.symm n2) hρ y2 ow0 oy
    · rcases get_set hk with ⟨rfl, e2⟩ | ⟨n2, y2⟩
      · exact S.disj j _ x _ n1 y1 hρ ox ow0
      · exact S.disj j k x y hjk y1 y2 ox oy
def rSetA (P : Program) (w : World) (K : PySem.W.Frag) : TSet := fun o i v H Q => rSetL o i v H Q ∨ ∃ a H', o = .ref a ∧ DStep P w K a H i v H' ∧ Q H'
theorem set_all {X : Cx} (hu : X.A.units + 9 < cLine) : PSet X (rSetA X.prog X.w X.K) := by
  intro pn s σ H o i v ov iv u Q I ro ri rv h
  rcases h with h | ⟨a, H', rfl, st, q⟩
  · exact set_list pn s σ H o i v ov iv u Q I ro ri rv h
  · rcases st with ⟨kvs, k, rfl, hD, hz, rfl⟩ | ⟨es, b, k, nd, ka, nk, hz, rfl⟩
    · exact set_dict (by omega) pn s σ H _ _ v ov iv u Q I ro ri rv ⟨a, _, rfl, DPut.k hD hz, q⟩
    · exact set_dn hu pn s σ H _ _ v ov iv u Q I ro ri rv ⟨a, es, b, k, rfl, nd, ka, nk, hz, q⟩
def sIxK (i : Nat) (ρ : En) (v k : D) : M Fl := match ρ[i]? with
  | some (some (.ol ds)) => (match k with | .int j => (match ixN ds.length j with | some n => M.ret (.nx (ρ.set i (some (.ol (ds.set n v))))) | none => M.fail) | _ => M.fail)
  | some (some (.od ks vs)) => if (keyOk ks k && decide (ks.length < sizeLine)) = true then M.ret (.nx (ρ.set i (some (.od (dputD ks vs k v).1 (dputD ks vs k v).2)))) else M.fail
  | _ => M.fail
def isOwn (ρ : En) (i : Nat) : Bool := match ρ[i]? with
  | some (some (.ol _)) => true
  | some (some (.od _ _)) => true
  | _ => false
theorem isOwn_ok {ρ : En} {i : Nat} (h : isOwn ρ i = true) : ∃ sv, ρ[i]? = some (some sv) ∧ Own sv := by
  unfold isOwn at h
  rcases q : ρ[i]? with _ | _ | sv
  · rw [q] at h; cases h
  · rw [q] at h; cases h
  · cases sv with
    | d x => rw [q] at h; cases h
    | ol _ => exact ⟨_, rfl, trivial⟩
    | od _ _ => exact ⟨_, rfl, trivial⟩
def sIx (i : Nat) (fk fa : Ex) : Sx := fun ρ => fa ρ >>= fun v => if isOwn ρ i = true then fk ρ >>= fun k => sIxK i ρ v k else M.fail
theorem slot_own {c : Cfg} {e : Gh} {σ : L2.St} {ρ : En} {L : List (List Addr)} {G H : Hp} {T : List Cell} (S : Sta c e L T G H σ ρ) {i : Nat} {sv : SV} (h : ρ[i]? = some (some sv)) (ow : Own sv) : ∃ q o, σ[i]? = some (some (.ref q)) ∧ H q = some o ∧ G q = none ∧ q ∉ L.flatten ∧ e.H0 q = none ∧
    ((∃ ds vs, sv = .ol ds ∧ o = .lst vs ∧ RepL c L G vs ds ∧ ds.length ≤ sizeLine) ∨ ∃ ks vs, sv = .od ks vs ∧ DRep c L G q o ks vs) := by
  obtain ⟨v, h1, h2⟩ := S.slot i sv h
  cases sv with
  | d x => exact ow.elim
  | ol ds =>
    obtain ⟨q, vs, rfl, a1, a2, a3, a4, a5, a6⟩ := h2
    exact ⟨q, _, h1, a1, a4, a5, a6, .inl ⟨ds, vs, rfl, rfl, a2, a3⟩⟩
  | od ks vs =>
    obtain ⟨q, o, rfl, a1, a2, a4, a5, a6⟩ := h2
    exact ⟨q, o, h1, a1, a4, a5, a6, .inr ⟨ks, vs, rfl, a2⟩⟩
theorem RepL.setAt {c : Cfg} {L : List (List Addr)} {G : Hp} {v : V} {d : D} (r : Rep c L G v d) : ∀ {vs : List V} {ds : List D} (_ : RepL c L G vs ds) (n : Nat), RepL c L G (vs.set n v) (ds.set n d)
  | _, _, .nil, _ => .nil
  | _, _, .cons _ t, 0 => .cons r t
  | _, _, .cons h t, n + 1 => .cons h (RepL.setAt r t n)
section
variable {X : Cx} {c : Cfg} {W : WX} {k : Nat} {a ik : Expr} {fk fa : Ex} {pos pos' sp : Pos} {x : Str}
theorem ds_ixset (i : Nat) (h : Ctx X c W k) (hk : PE X ik (tD c W fk)) (ha : PE X a (tD c W fa)) (hi : X.N[i]? = some x := by rfl) (hv : Vis X.env.scope x := by first | exact Or.inl rfl | exact Or.inr (Or.inl rfl) | exact Or.inr (Or.inr rfl)) (hd : (x == ("__debug__" : Str)) = false := by decide) (hcd : (x == ("__classdict__" : Str)) = false := by decide)
    (hs : swapsWithSole [.Subscript (.Name x pos') ik sp] a pos.line X.env = pure false := by rfl) (hw : swappedStores [.Subscript (.Name x pos') ik sp] a X.env = pure none := by rfl) (h1 : (assignEach [.Subscript (.Name x pos') ik sp] X.env).map (·.2) = [assign (.Subscript (.Name x pos') ik sp) X.env] := by rfl)
    (hsub : ∀ v, assign (.Subscript (.Name x pos') ik sp) X.env v = (do
      let ov ← holding [v] (eval (.Name x pos') X.env)
      let iv ← holding [v, ov] (eval ik X.env)
      standAt sp
      holding [v, ov, iv] (setItem ov iv v)
      release [v, ov, iv] []) := by intro _; rfl) : PS X (.Assign [.Subscript (.Name x pos') ik sp] a pos) (tS c W (sIx i fk fa)) := by
  refine (ps_asg ha (pg_sub (pe_var hi hv hd hcd) hk (set_all h.u9) hsub) hs hw h1).imp fun D σ H q => (ex_end (F := fun v ρ => if isOwn ρ i = true then fk ρ >>= fun k => sIxK i ρ v k else M.fail) q).mono fun v H1 ⟨e, L, T, G, ρ, d, S, rv, p⟩ => ?_
  by_cases io : isOwn ρ i = true
  case neg => rw [if_neg io] at p; exact False.elim p
  case pos =>
    rw [if_pos io] at p
    obtain ⟨sv, hρ, ow⟩ := isOwn_ok io
    obtain ⟨q0, o0, hσ, _⟩ := slot_own S hρ ow
    refine ⟨.ref q0, hσ, e, L, T, G, ρ, S, ?_⟩
    cases hr : fk ρ T with
    | bad => rw [bnd_bad hr] at p; exact p
    | exn k T' => rw [bnd_exn hr] at p; exact fun L' G' H' h1 h2 S' => p L' G' H' σ ρ h1 h2 S'
    | ok kk T' =>
      rw [bnd_ok hr] at p
      intro y L' G' H' l1 g1 S' ry
      obtain ⟨q1, o, hσ', ho, hg, hl, h0, alt⟩ := slot_own S' hρ ow
      rw [hσ] at hσ'
      cases hσ'
      rcases alt with ⟨ds, vs, rfl, rfl, rvs, hz⟩ | ⟨ks, vs, rfl, dr⟩
      · simp only [sIxK, hρ] at p
        cases kk with
        | int j =>
          cases ry
          simp only at p
          cases hn : ixN ds.length j with
          | none => rw [hn] at p; exact False.elim p
          | some n =>
            rw [hn] at p
            refine .inl ⟨q0, vs, j, n, rfl, rfl, ho, by rw [rvs.length]; exact hn, ?_⟩
            exact p L' G' _ σ l1 g1 (S'.reown hρ ow hσ hg hl h0 trivial ⟨q0, _, rfl, upd_same, RepL.setAt (rv.up l1 g1) rvs n, by rw [List.length_set]; exact hz, hg, hl, h0⟩)
        | _ => exact False.elim p
      · simp only [sIxK, hρ] at p
        by_cases z : (keyOk ks kk && decide (ks.length < sizeLine)) = true
        · rw [if_pos z] at p
          have z' := z
          simp only [Bool.and_eq_true, decide_eq_true_eq] at z'
          obtain ⟨o', st, dr'⟩ := drep_put S'.subS ho dr ry (rv.up l1 g1) z'.1 z'.2
          rw [h.hK, h.hP, h.hw]
          exact .inr ⟨q0, _, rfl, st, p L' G' _ σ l1 g1 (S'.reown hρ ow hσ hg hl h0 trivial ⟨q0, _, rfl, upd_same, dr', hg, hl, h0⟩)⟩
        · rw [if_neg z] at p; exact False.elim p
end
end WW
set_option maxHeartbeats 1000000
namespace WW
open PySem PySem.Spec PyProof.Rows L2
def negM : D → M D
  | .int i => M.ret (.int (-i))
  | _ => M.fail
def sumM : D → M D
  | .lst xs => (match intsOf xs with | some ns => M.ret (.int ns.sum) | none => M.fail)
  | _ => M.fail
def maxI : List Int → Option Int
  | [] => none
  | x :: xs => some (xs.foldl max x)
def minI : List Int → Option Int
  | [] => none
  | x :: xs => some (xs.foldl min x)
def maxM : D → M D
  | .lst xs => (match intsOf xs with | some ns => (match maxI ns with | some m => M.ret (.int m) | none => M.fail) | none => M.fail)
  | _ => M.fail
def minM : D → M D
  | .lst xs => (match intsOf xs with | some ns => (match minI ns with | some m => M.ret (.int m) | none => M.fail) | none => M.fail)
  | _ => M.fail
def min2M : D → D → M D
  | .int i, .int j => M.ret (.int (if j < i then j else i))
  | _, _ => M.fail
def F2 {α : Type} (op : D → D → M α) : List D → M α
  | [x, y] => op x y
  | _ => M.fail
theorem foldl_max : ∀ (xs : List Int) (x : Int), x ≤ xs.foldl max x ∧ (∀ y ∈ xs, y ≤ xs.foldl max x) ∧ (xs.foldl max x = x ∨ xs.foldl max x ∈ xs)
  | [], x => ⟨Int.le_refl _, (fun _ h => absurd h (by simp)), .inl rfl⟩
  | z :: xs, x => by
    obtain ⟨h1, h2, h3⟩ := foldl_max xs (max x z)
    refine ⟨by simp only [List.foldl_cons]; omega, fun y hy => ?_, ?_⟩
    · rcases List.mem_cons.mp hy with rfl | hy
      · simp only [List.foldl_cons]; omega
      · exact h2 y hy
    · simp only [List.foldl_cons]
      rcases h3 with h3 | h3
      · rw [h3]
        by_cases q : x ≤ z
        · rw [Int.max_eq_right q]; exact .inr List.mem_cons_self
        · rw [Int.max_eq_left (by omega)]; exact .inl rfl
      · exact .inr (List.mem_cons_of_mem _ h3)
theorem foldl_min : ∀ (xs : List Int) (x : Int), xs.foldl min x ≤ x ∧ (∀ y ∈ xs, xs.foldl min x ≤ y) ∧ (xs.foldl min x = x ∨ xs.foldl min x ∈ xs)
  | [], x => ⟨Int.le_refl _, (fun _ h => absurd h (by simp)), .inl rfl⟩
  | z :: xs, x => by
    obtain ⟨h1, h2, h3⟩ := foldl_min xs (min x z)
    refine ⟨by simp only [List.foldl_cons]; omega, fun y hy => ?_, ?_⟩
    · rcases List.mem_cons.mp hy with rfl | hy
      · simp only [List.foldl_cons]; omega
      · exact h2 y hy
    · simp only [List.foldl_cons]
      rcases h3 with h3 | h3
      · rw [h3]
        by_cases q : x ≤ z
        · rw [Int.min_eq_left q]; exact .inl rfl
        · rw [Int.min_eq_right (by omega)]; exact .inr List.mem_cons_self
      · exact .inr (List.mem_cons_of_mem _ h3)
section
variable {c : Cfg}
theorem cd_sum : CallD c (rSum c.K) (F1 sumM) := by
  intro e W L T G H σ ρ vs ds Q S r p
  cases r with
  | nil => exact p.bad
  | cons r1 r2 =>
    cases r2 with
    | cons _ _ => exact p.bad
    | nil =>
      cases r1 with
      | @lst a vs ds h1 h2 h3 =>
        simp only [F1, sumM] at p
        cases q : intsOf ds with
        | none => rw [q] at p; exact p.bad
        | some ns =>
          rw [q] at p
          have e1 := intsOf_some q
          subst e1
          rw [h2.ints] at h1
          exact ⟨a, ns, rfl, .of (S.subS.lst h1), p.val S (.int _)⟩
      | _ => exact p.bad
theorem cd_max : CallD c (rMax c.K) (F1 maxM) := by
  intro e W L T G H σ ρ vs ds Q S r p
  cases r with
  | nil => exact p.bad
  | cons r1 r2 =>
    cases r2 with
    | cons _ _ => exact p.bad
    | nil =>
      cases r1 with
      | @lst a vs ds h1 h2 h3 =>
        simp only [F1, maxM] at p
        cases q : intsOf ds with
        | none => rw [q] at p; exact p.bad
        | some ns =>
          rw [q] at p
          have e1 := intsOf_some q
          subst e1
          rw [h2.ints] at h1
          cases ns with
          | nil => exact p.bad
          | cons x xs =>
            refine ⟨a, x :: xs, rfl, .of (S.subS.lst h1), by simp, fun m hm hy => ?_⟩
            obtain ⟨k1, k2, k3⟩ := foldl_max xs x
            have e2 : xs.foldl max x = m := by
              have a1 : xs.foldl max x ≤ m := hy _ (by rcases k3 with k | k <;> simp [k])
              have a2 : m ≤ xs.foldl max x := by
                rcases List.mem_cons.mp hm with rfl | hm
                · exact k1
                · exact k2 _ hm
              omega
            have q2 := p.val S (.int _)
            rw [e2] at q2
            exact q2
      | _ => exact p.bad
theorem cd_min : CallD c (rMin c.K) (F1 minM) := by
  intro e W L T G H σ ρ vs ds Q S r p
  cases r with
  | nil => exact p.bad
  | cons r1 r2 =>
    cases r2 with
    | cons _ _ => exact p.bad
    | nil =>
      cases r1 with
      | @lst a vs ds h1 h2 h3 =>
        simp only [F1, minM] at p
        cases q : intsOf ds with
        | none => rw [q] at p; exact p.bad
        | some ns =>
          rw [q] at p
          have e1 := intsOf_some q
          subst e1
          rw [h2.ints] at h1
          cases ns with
          | nil => exact p.bad
          | cons x xs =>
            refine ⟨a, x :: xs, rfl, .of (S.subS.lst h1), by simp, fun m hm hy => ?_⟩
            obtain ⟨k1, k2, k3⟩ := foldl_min xs x
            have e2 : xs.foldl min x = m := by
              have a1 : m ≤ xs.foldl min x := hy _ (by rcases k3 with k | k <;> simp [k])
              have a2 : xs.foldl min x ≤ m := by
                rcases List.mem_cons.mp hm with rfl | hm
                · exact k1
                · exact k2 _ hm
              omega
            have q2 := p.val S (.int _)
            rw [e2] at q2
            exact q2
      | _ => exact p.bad
theorem cd_min2 : CallD c (fun xs H Q => ∃ i j, xs = [.int i, .int j] ∧ Q (.int (if j < i then j else i)) H) (F2 min2M) := by
  intro e W L T G H σ ρ vs ds Q S r p
  cases r with
  | nil => exact p.bad
  | cons r1 r2 =>
    cases r2 with
    | nil => exact p.bad
    | cons r2 r3 =>
      cases r3 with
      | cons _ _ => exact p.bad
      | nil =>
        cases r1 <;> cases r2 <;> first | exact p.bad | exact ⟨_, _, rfl, p.val S (.int _)⟩
end
section
variable {X : Cx} {c : Cfg} {W : WX} {k : Nat} {a b : Expr} {fa fb : Ex} {pos p : Pos}
theorem de_neg (ha : PE X a (tD c W fa)) : PE X (.UnaryOp .USub a pos) (tD c W (d1 negM fa)) := (pe_un un_neg ha).imp fun σ H Q q => (tG.one (R1 := Rep c) (f := fa) (k := fun d _ => negM d) q).mono fun v H1 q1 => by
  obtain ⟨e, L, T, G, ρ, d, S, r, p⟩ := q1
  cases r with
  | int i => exact ⟨i, rfl, p.val S (.int _)⟩
  | _ => exact p.bad
theorem de_sum (h : Ctx X c W k) (ha : PE X a (tD c W fa)) (ns : NS a := by intro _ _; rfl) (hg : Gl X "sum" := by rfl) : PE X (.Call (.Name "sum" p) [a] [] pos) (tD c W (dCall (F1 sumM) [fa])) :=
  (pe_callB (cr_sum h.calm) hg h.bl.sum (by decide +kernel) (da_cons ha da_nil (ns _ _)) (he := ns _ _)).imp fun σ H Q q => call_end (h.hK ▸ cd_sum) q
theorem de_max (h : Ctx X c W k) (ha : PE X a (tD c W fa)) (ns : NS a := by intro _ _; rfl) (hg : Gl X "max" := by rfl) : PE X (.Call (.Name "max" p) [a] [] pos) (tD c W (dCall (F1 maxM) [fa])) :=
  (pe_callB (cr_max h.calm) hg h.bl.max (by decide +kernel) (da_cons ha da_nil (ns _ _)) (he := ns _ _)).imp fun σ H Q q => call_end (h.hK ▸ cd_max) q
theorem de_min (h : Ctx X c W k) (ha : PE X a (tD c W fa)) (ns : NS a := by intro _ _; rfl) (hg : Gl X "min" := by rfl) : PE X (.Call (.Name "min" p) [a] [] pos) (tD c W (dCall (F1 minM) [fa])) :=
  (pe_callB (cr_min h.calm) hg h.bl.min (by decide +kernel) (da_cons ha da_nil (ns _ _)) (he := ns _ _)).imp fun σ H Q q => call_end (h.hK ▸ cd_min) q
theorem de_min2 (h : Ctx X c W k) (ha : PE X a (tD c W fa)) (hb : PE X b (tD c W fb)) (ns : NS a := by intro _ _; rfl) (ns2 : NS b := by intro _ _; rfl) (hg : Gl X "min" := by rfl) (hpl : (backTo pos (starEach [b] X.env)).any (·.1) = false := by rfl) : PE X (.Call (.Name "min" p) [a, b] [] pos) (tD c W (dCall (F2 min2M) [fa, fb])) :=
  (pe_callB (call_min2 h.calm) hg h.bl.min (by decide +kernel) (da_cons ha (da_cons hb da_nil (ns2 _ _)) (ns _ _)) (he := ns _ _) (hpl := hpl)).imp fun σ H Q q => call_end cd_min2 q
end
end WW
set_option maxHeartbeats 1000000
namespace WW
open PySem PySem.Spec PyProof.Rows L2
def cutD (xs : List D) (lo hi : Option Int) : List D := (xs.drop (HT.sIx xs.length 0 lo)).take (HT.sIx xs.length xs.length hi - HT.sIx xs.length 0 lo)
abbrev Px := En → M (Option Int)
def pNo : Px := fun _ => M.ret none
def pIn (f : Ex) : Px := fun ρ => f ρ >>= fun d => match d with
  | .int i => M.ret (some i)
  | _ => M.fail
def slM (x : D) (lo hi : Option Int) : M D := match x with
  | .lst xs => M.ret (.lst (cutD xs lo hi))
  | .tup xs => M.ret (.tup (cutD xs lo hi))
  | _ => M.fail
def dSl (f : Ex) (lo hi : Px) : Ex := fun ρ => f ρ >>= fun x => lo ρ >>= fun l => hi ρ >>= fun u => slM x l u
abbrev tP (c : Cfg) (W : WX) (f : Px) : TO := tG c W (fun _ _ (b b' : Option Int) => b = b') f
def revM : D → M D
  | .lst xs => M.ret (.lst xs.reverse)
  | _ => M.fail
theorem cutD_length (xs : List D) (lo hi : Option Int) : (cutD xs lo hi).length ≤ xs.length := by
  unfold cutD
  rw [List.length_take, List.length_drop]
  omega
theorem RepL.cut {c : Cfg} {L : List (List Addr)} {G : Hp} {vs : List V} {ds : List D} (h : RepL c L G vs ds) (lo hi : Option Int) : RepL c L G (cutV vs lo hi) (cutD ds lo hi) := by
  unfold cutV cutD
  rw [h.length]
  exact RepL.take _ (RepL.drop _ h)
theorem RepL.rev {c : Cfg} {L : List (List Addr)} {G : Hp} : ∀ {vs : List V} {ds : List D}, RepL c L G vs ds → RepL c L G vs.reverse ds.reverse
  | _, _, .nil => .nil
  | _, _, .cons h t => by rw [List.reverse_cons, List.reverse_cons]; exact (RepL.rev t).snoc h
section
variable {X : Cx} {c : Cfg} {W : WX} {k : Nat} {a b : Expr} {fa fb : Ex} {pos p p1 p2 p3 : Pos} {lo hi : Option Expr} {fl fh : Px}
theorem dp_no : PO X none (tP c W pNo) := ⟨fun pins s σ H Q I ⟨e, L, T, G, ρ, S, p⟩ => po_none.run pins s σ H Q I (p none L G H (LE.refl _) (Same.refl _) S rfl)⟩
theorem dp_in (ha : PE X a (tD c W fa)) : PO X (some a) (tP c W (pIn fa)) := ⟨fun pins s σ H Q I q => (po_some ha).run pins s σ H Q I ((tG.one (R1 := Rep c) (f := fa) (k := fun d _ => match d with | .int i => M.ret (some i) | _ => M.fail) q).mono fun v H1 q1 => by
  obtain ⟨e, L, T, G, ρ, d, S, r, p⟩ := q1
  cases r with
  | int i => exact ⟨i, rfl, p _ L G H1 (LE.refl _) (Same.refl _) S rfl⟩
  | _ => exact p.bad)⟩
theorem de_sl (h : Ctx X c W k) (ha : PE X a (tD c W fa)) (hl : PO X lo (tP c W fl)) (hh : PO X hi (tP c W fh)) : PE X (.Subscript a (.Slice lo hi none p2) pos) (tD c W (dSl fa fl fh)) := by
  refine (pe_slice (SlR.or sl_tupA sl_list) ha hl hh).imp fun σ H Q q => (tG.two (R1 := Rep c) (R1' := fun _ _ (b b' : Option Int) => b = b') (f := fa) (g := fl) (k := fun x l ρ => fh ρ >>= fun u => slM x l u) Rep.up q).mono fun v H1 q1 => q1.mono fun l H2 q2 => ?_
  obtain ⟨e, L, T, G, ρ, x, l', S, rx, rfl, p⟩ := q2
  refine ⟨e, L, T, G, ρ, S, (PostG.then (R1 := fun _ _ (b b' : Option Int) => b = b') p).mono fun u H3 ⟨L1, T1, G1, u', l1, g1, S1, eb, _, p1⟩ => ?_⟩
  subst eb
  have rx' := rx.up l1 g1
  rw [h.hK]
  cases rx.up l1 g1 with
  | @lst ad vs ds h1 h2 h3 =>
    exact .inr ⟨ad, vs, rfl, .of (S1.subS.lst h1), p1.newL S1 (h2.cut _ _) (Nat.le_trans (cutD_length _ _ _) h3)⟩
  | @tup ad vs ds h1 h2 h3 =>
    refine .inl ⟨ad, vs, rfl, S1.subS.sqT h1, fun w => ?_, fun _ => p1.newT S1 (h2.cut _ _) (Nat.le_trans (cutD_length _ _ _) h3)⟩
    have e1 : cutD ds l u = ds := by
      unfold cutD
      rw [← h2.length, w.1, w.2]
      simp [h2.length]
    rw [show slM (.tup ds) l u = M.ret (.tup (cutD ds l u)) from rfl, e1] at p1
    exact p1.val S1 rx'
  | _ => exact p1.bad
theorem de_rev {j : Nat} (h : Ctx X c W k) (ha : PE X a (tD c W fa)) : PE X (.Subscript a (.Slice none none (some (.UnaryOp .USub (.Constant (.int 1) j p1) p2)) p3) pos) (tD c W (d1 revM fa)) := (pe_revL ha).imp fun σ H Q q => (tG.one (R1 := Rep c) (f := fa) (k := fun d _ => revM d) q).mono fun v H1 q1 => by
  obtain ⟨e, L, T, G, ρ, d, S, r, p⟩ := q1
  cases r with
  | @lst ad vs ds h1 h2 h3 =>
    rw [h.hK]
    exact ⟨ad, vs, rfl, .of (S.subS.lst h1), p.newL S h2.rev (by rw [List.length_reverse]; exact h3)⟩
  | _ => exact p.bad
/-- a slot's own list, read by place -/
def ixO (xs : List D) (j : Int) : M D := match ixN xs.length j with
  | some n => (match xs[n]? with | some d => M.ret d | none => M.fail)
  | none => M.fail
def dIxO (i : Nat) (f : Ex) : Ex := fun ρ => match ρ[i]? with
  | some (some (.ol xs)) => f ρ >>= fun k => (match k with | .int j => ixO xs j | _ => M.fail)
  | _ => M.fail
end
end WW
set_option maxHeartbeats 1000000
namespace WW
open PySem PySem.Spec PyProof.Rows L2
def ownL (ρ : En) (i : Nat) : Option (List D) := match ρ[i]? with
  | some (some (.ol xs)) => some xs
  | _ => none
theorem ownL_ok {ρ : En} {i : Nat} {xs : List D} (h : ownL ρ i = some xs) : ρ[i]? = some (some (.ol xs)) := by
  unfold ownL at h
  rcases q : ρ[i]? with _ | _ | sv
  · rw [q] at h; cases h
  · rw [q] at h; cases h
  · rw [q] at h
    cases sv with
    | ol ys => cases h; rfl
    | d x => cases h
    | od x y => cases h
def atM (xs : List D) : D → M D
  | .int j => M.ofO (atI xs j)
  | _ => M.fail
def dAtO (i : Nat) (f : Ex) : Ex := fun ρ => match ownL ρ i with
  | some xs => f ρ >>= atM xs
  | none => M.fail
def dLenO (i : Nat) : Ex := fun ρ => match ownL ρ i with
  | some xs => M.ret (.int xs.length)
  | none => M.fail
theorem atI_rep {c : Cfg} {L : List (List Addr)} {G : Hp} {vs : List V} {ds : List D} {j : Int} {d : D} (r : RepL c L G vs ds) (h : atI ds j = some d) : ∃ v, atI vs j = some v ∧ Rep c L G v d := by
  unfold atI at h ⊢
  rw [r.length]
  cases q : ixN ds.length j with
  | none => rw [q] at h; cases h
  | some n =>
    rw [q] at h
    exact r.get (i := n) h
section
variable {X : Cx} {c : Cfg} {W : WX} {k : Nat} {a b : Expr} {fa fb : Ex} {pos p pos' : Pos} {x : Str}
theorem de_atO (i : Nat) (h : Ctx X c W k) (hb : PE X b (tD c W fb)) (hs : PlainIx b := by exact fun _ _ => rfl) (hi : X.N[i]? = some x := by rfl) (hv : Vis X.env.scope x := by first | exact Or.inl rfl | exact Or.inr (Or.inl rfl) | exact Or.inr (Or.inr rfl)) (hd : (x == ("__debug__" : Str)) = false := by decide) (hcd : (x == ("__classdict__" : Str)) = false := by decide) :
    PE X (.Subscript (.Name x pos') b pos) (tD c W (dAtO i fb)) := by
  refine (pe_ix ix_list (pe_var hi hv hd hcd) hb hs).imp fun σ H Q ⟨e, L, T, G, ρ, S, p⟩ => ?_
  cases hx : ownL ρ i with
  | none => simp only [dAtO, hx] at p; exact p.bad
  | some xs =>
    simp only [dAtO, hx] at p
    have hρ := ownL_ok hx
    obtain ⟨q0, o0, hσ, _⟩ := slot_own S hρ trivial
    refine ⟨.ref q0, hσ, e, L, T, G, ρ, S, (PostG.then (R1 := Rep c) p).mono fun y H2 ⟨L1, T1, G1, kk, l1, g1, S1, ry, _, p1⟩ => ?_⟩
    obtain ⟨q1, o, hσ', ho, hg, hl, h0, alt⟩ := slot_own S1 hρ trivial
    rw [hσ] at hσ'
    cases hσ'
    rcases alt with ⟨ds, vs, e1, rfl, rvs, hz⟩ | ⟨_, _, e1, _⟩
    · cases e1
      cases ry with
      | int j =>
        simp only [atM] at p1
        cases q : atI xs j with
        | none => rw [q] at p1; exact p1.bad
        | some d =>
          rw [q] at p1
          obtain ⟨v, e2, rv⟩ := atI_rep rvs q
          exact ⟨q0, vs, j, v, rfl, rfl, .of ho, e2, p1.val S1 rv⟩
      | _ => exact p1.bad
    · cases e1
theorem de_lenO (i : Nat) (h : Ctx X c W k) (hi : X.N[i]? = some x := by rfl) (hv : Vis X.env.scope x := by first | exact Or.inl rfl | exact Or.inr (Or.inl rfl) | exact Or.inr (Or.inr rfl)) (hd : (x == ("__debug__" : Str)) = false := by decide) (hcd : (x == ("__classdict__" : Str)) = false := by decide)
    (ns : NS (.Name x pos') := by intro _ _; rfl) (hg : Gl X "len" := by rfl) : PE X (.Call (.Name "len" p) [.Name x pos'] [] pos) (tD c W (dLenO i)) := by
  refine (pe_callB call_len_seq hg h.bl.len PySem.boot_len (pa_cons (pe_var hi hv hd hcd) pa_nil (ns _ _)) (he := ns _ _)).imp fun σ H Q ⟨e, L, T, G, ρ, S, p⟩ => ?_
  cases hx : ownL ρ i with
  | none => simp only [dLenO, hx] at p; exact p.bad
  | some xs =>
    simp only [dLenO, hx] at p
    obtain ⟨q0, o, hσ, ho, hg, hl, h0, alt⟩ := slot_own S (ownL_ok hx) trivial
    rcases alt with ⟨ds, vs, e1, rfl, rvs, hz⟩ | ⟨_, _, e1, _⟩
    · cases e1
      refine ⟨.ref q0, hσ, q0, vs, rfl, .inl (.of ho), ?_⟩
      have q := p.val S (.int _)
      rw [rvs.length]
      exact q
    · cases e1
end
end WW
set_option maxHeartbeats 1000000
namespace WW
open PySem PySem.Spec PyProof.Rows L2
abbrev Sta1 := En → List D → M (List D)
def acF (ρ0 : En) (b : Bd) (t : Tx) (stp : Sta1) : List D → List D → M (List D)
  | [], ks => M.ret ks
  | x :: xs, ks => match b x ρ0 with
    | none => M.fail
    | some ρ => t ρ >>= fun z => if z = true then stp ρ ks >>= fun r => acF ρ0 b t stp xs r else acF ρ0 b t stp xs ks
def al1 (el : Ex) : Sta1 := fun ρ ks => el ρ >>= fun y => if ks.length < sizeLine then M.ret (ks ++ [y]) else M.fail
def al2 (src : Sr) (b : Bd) (t : Tx) (el : Ex) (vs1 : List Nat) : Sta1 := fun ρ ks => if okW ρ vs1 = true then src ρ >>= fun ys => acF (wipeE ρ vs1) b t (al1 el) ys ks else M.fail
def oLc2 (src : Sr) (b : Bd) (t : Tx) (src1 : Sr) (b1 : Bd) (t1 : Tx) (el : Ex) (vs vs1 : List Nat) : Ox := fun ρ => if okW ρ vs = true then src ρ >>= fun xs => noX (acF (wipeE ρ vs) b t (al2 src1 b1 t1 el vs1) xs []) else M.fail
def LRep (c : Cfg) (L : List (List Addr)) (G : Hp) (o : HO) (ks : List D) : Prop := ∃ vs, o = .lst vs ∧ RepL c L G vs ks ∧ ks.length ≤ sizeLine
theorem LRep.mono {c : Cfg} {L L' : List (List Addr)} {G G' : Hp} {o : HO} {ks : List D} (h : LRep c L G o ks) (hL : LE L L') (hG : Same G G') : LRep c L' G' o ks := let ⟨vs, a, b, d⟩ := h; ⟨vs, a, b.up hL hG, d⟩
theorem acF_ok {ρ0 : En} {b : Bd} {t : Tx} {stp : Sta1} {x : D} {xs ks r : List D} {T T' : List Cell} (h : acF ρ0 b t stp (x :: xs) ks T = .ok r T') : ∃ ρ1 z Tz, b x ρ0 = some ρ1 ∧ t ρ1 T = .ok z Tz ∧
    ((z = true ∧ ∃ r1 T1, stp ρ1 ks Tz = .ok r1 T1 ∧ acF ρ0 b t stp xs r1 T1 = .ok r T') ∨ (z = false ∧ acF ρ0 b t stp xs ks Tz = .ok r T')) := by
  unfold acF at h
  cases hb : b x ρ0 with
  | none => rw [hb] at h; cases h
  | some ρ1 =>
    rw [hb] at h
    obtain ⟨z, Tz, h1, h2⟩ := bind_ok h
    refine ⟨ρ1, z, Tz, rfl, h1, ?_⟩
    cases z with
    | false => exact .inr ⟨rfl, h2⟩
    | true =>
      obtain ⟨r1, T1, h3, h4⟩ := bind_ok h2
      exact .inl ⟨rfl, r1, T1, h3, h4⟩
section
variable {c : Cfg} {e : Gh} {D0 : Addr} {b : Bd} {t : Tx} {stp : Sta1} {is vs0 : List Nat} {σ : L2.St} {ρ : En} {J : It}
/-- one loop of a list comprehension of two clauses -/
theorem lloop {L0 : List (List Addr)} {T0 T2 : List Cell} {G0 H1 : Hp} {o0 : HO} {ks0 KS xs : List D} {TR : L2.St → Hp → (Hp → Prop) → Prop} {END : Hp → Prop} (hb : BdOk b is) (hv : ∀ i ∈ is, i ∈ vs0) (ok : okW ρ vs0 = true)
    (S0 : Sta c (e.add (D0, o0)) L0 T0 G0 H1 σ ρ) (dr0 : LRep c L0 G0 o0 ks0) (wk : Wk c L0 G0 J xs) (hrun : acF (wipeE ρ vs0) b t stp xs ks0 T0 = .ok KS T2)
    (hTR : ∀ (L : List (List Addr)) (T : List Cell) (G H : Hp) (σ2 : L2.St) (ρ2 : En) (o : HO) (ks ks' : List D) (T' : List Cell) (Nx : Hp → Prop), Sta c (e.add (D0, o)) L T G H σ2 ρ2 → LRep c L G o ks → stp ρ2 ks T = .ok ks' T' →
      (∀ (L' : List (List Addr)) (G' H' : Hp) (o' : HO), LE L L' → Same G G' → Sta c (e.add (D0, o')) L' T' G' H' σ2 ρ2 → LRep c L' G' o' ks' → Nx H') → TR σ2 H Nx)
    (hE : ∀ (L : List (List Addr)) (G H : Hp) (o : HO), LE L0 L → Same G0 G → Sta c (e.add (D0, o)) L T2 G H σ ρ → LRep c L G o KS → END H) :
    ∃ Z : Nat → Nat → Hp → Prop, (∃ m, Z 0 m H1) ∧ ∀ i m H, Z i m H → (J.stop i H ∧ END H) ∨ (J.go i H ∧ ∃ Nx : Hp → Prop, (∀ H', Nx H' → ∃ m', m' < m ∧ Z (i + 1) m' H') ∧ ∀ x H', J.yld i H x H' → gD c is b x (L2.wipe σ vs0) H' fun σ2 H2 => L2.wipe σ2 vs0 = L2.wipe σ vs0 ∧
      tT c W0 t σ2 H2 fun z H3 => if z = true then TR σ2 H3 Nx else Nx H3) := by
  refine ⟨fun i m H => m = xs.length - i ∧ i ≤ xs.length ∧ ∃ L T G o ks, Sta c (e.add (D0, o)) L T G H σ ρ ∧ LE L0 L ∧ Same G0 G ∧ LRep c L G o ks ∧ acF (wipeE ρ vs0) b t stp (xs.drop i) ks T = .ok KS T2,
    ⟨xs.length, by simp, Nat.zero_le _, L0, T0, G0, o0, ks0, S0, LE.refl _, Same.refl _, dr0, by simpa using hrun⟩, ?_⟩
  rintro i m H ⟨rfl, hi, L, T, G, o, ks, S, l1, g1, dr, hl⟩
  have w := wk _ L T G H σ ρ l1 g1 S i hi
  by_cases lt : i < xs.length
  · have hx : xs[i]? = some xs[i] := List.getElem?_eq_getElem lt
    obtain ⟨go, yl⟩ := w.1 _ hx
    rw [List.drop_eq_getElem_cons lt] at hl
    obtain ⟨ρ1, z, Tz, hb1, ht, alt⟩ := acF_ok hl
    obtain ⟨bl, bo⟩ := hb _ _ _ hb1
    have bo' : ∀ j, j ∉ vs0 → ρ1[j]? = ρ[j]? := fun j hj => by rw [bo j fun z => hj (hv j z), wipeE_get, if_neg (fun q => hj q.1)]
    refine .inr ⟨go, fun H' => i + 1 ≤ xs.length ∧ ∃ L T G o ks, Sta c (e.add (D0, o)) L T G H' σ ρ ∧ LE L0 L ∧ Same G0 G ∧ LRep c L G o ks ∧ acF (wipeE ρ vs0) b t stp (xs.drop (i + 1)) ks T = .ok KS T2, fun H' q => ⟨xs.length - (i + 1), by omega, rfl, q⟩, fun v H2 y => ?_⟩
    obtain ⟨G2, g2, S2, rv⟩ := yl v H2 y
    refine ⟨_, L, T, G2, wipeE ρ vs0, xs[i], S2.wipe vs0, rv, ?_⟩
    rw [hb1]
    intro σ1 S3 so
    have so' : ∀ j, j ∉ vs0 → σ1[j]? = σ[j]? := fun j hj => by rw [so j fun z => hj (hv j z), wipe_get, if_neg (fun q => hj q.1)]
    have sl : σ1.length = σ.length := by rw [S3.len, bl, wipeE_length, S2.len]
    refine ⟨wipe_eq sl so', _, L, T, G2, ρ1, S3, ?_⟩
    rw [ht]
    intro z' L3 G3 H3 l3 g3 S4 ez
    subst ez
    rcases alt with ⟨rfl, ks1, T1, hs1, hr⟩ | ⟨rfl, hr⟩
    · rw [if_pos rfl]
      refine hTR L3 Tz G3 H3 σ1 ρ1 o ks ks1 T1 _ S4 (dr.mono l3 (g2.trans g3)) hs1 fun L4 G4 H4 o4 l4 g4 S5 dr5 => ?_
      exact ⟨by omega, L4, T1, G4, o4, ks1, S2.backx S5 (l3.trans l4) (g3.trans g4) ok so' bo', l1.trans (l3.trans l4), g1.trans (g2.trans (g3.trans g4)), dr5, hr⟩
    · rw [if_neg (by simp)]
      exact ⟨by omega, L3, _, G3, o, ks, S2.backx S4 l3 g3 ok so' bo', l1.trans l3, g1.trans (g2.trans g3), dr.mono l3 (g2.trans g3), hr⟩
  · have e1 : i = xs.length := by omega
    refine .inl ⟨w.2 (by simp [e1]), ?_⟩
    rw [e1, List.drop_length] at hl
    cases hl
    exact hE L G H o l1 g1 S dr
end
end WW
set_option maxHeartbeats 1000000
namespace WW
open PySem PySem.Spec PyProof.Rows L2
def trAl (te : TE) : Addr → L2.St → Hp → (Hp → Prop) → Prop := fun D σ H Nx => te σ H fun y H7 => ∃ acc, H7 D = some (.lst acc) ∧ acc.length < sizeLine ∧ Nx (upd H7 D (.lst (acc ++ [y])))
section
variable {c : Cfg} {e : Gh} {D0 : Addr} {L : List (List Addr)} {T T' : List Cell} {G H : Hp} {σ2 : L2.St} {ρ2 : En} {o : HO} {ks ks' : List D} {el : Ex} {Nx : Hp → Prop}
theorem tral_end (hx : ∀ q ∈ e.xo, q.1 ≠ D0) (S : Sta c (e.add (D0, o)) L T G H σ2 ρ2) (dr : LRep c L G o ks) (hr : al1 el ρ2 ks T = .ok ks' T')
    (K : ∀ (L' : List (List Addr)) (G' H' : Hp) (o' : HO), LE L L' → Same G G' → Sta c (e.add (D0, o')) L' T' G' H' σ2 ρ2 → LRep c L' G' o' ks' → Nx H') : trAl (tD c W0 el) D0 σ2 H Nx := by
  obtain ⟨y, T1, h1, h2⟩ := bind_ok hr
  by_cases z : ks.length < sizeLine
  · rw [if_pos z] at h2
    have e1 : ks ++ [y] = ks' := by injection h2
    have e2 : T1 = T' := by injection h2
    subst e1 e2
    refine ⟨_, L, T, G, ρ2, S, ?_⟩
    rw [h1]
    intro u L3 G3 H3 l3 g3 S3 ru
    obtain ⟨vs, rfl, rv, hz⟩ := dr.mono l3 g3
    refine ⟨vs, S3.hadx.1, by rw [rv.length]; exact z, K L3 G3 _ (.lst (vs ++ [u])) l3 g3 (S3.setx hx) ⟨_, rfl, rv.snoc ru, by simp; omega⟩⟩
  · rw [if_neg z] at h2; cases h2
theorem tralin_end {src : Sr} {b : Bd} {t : Tx} {is vs1 : List Nat} (hb : BdOk b is) (hv : ∀ i ∈ is, i ∈ vs1) (hx : ∀ q ∈ e.xo, q.1 ≠ D0) (S : Sta c (e.add (D0, o)) L T G H σ2 ρ2) (dr : LRep c L G o ks) (hr : al2 src b t el vs1 ρ2 ks T = .ok ks' T')
    (K : ∀ (L' : List (List Addr)) (G' H' : Hp) (o' : HO), LE L L' → Same G G' → Sta c (e.add (D0, o')) L' T' G' H' σ2 ρ2 → LRep c L' G' o' ks' → Nx H') :
    trIn (tI c W0 src) (gD c is b) (tT c W0 t) (trAl (tD c W0 el)) vs1 D0 σ2 H Nx := by
  unfold al2 at hr
  by_cases ok : okW ρ2 vs1 = true
  · rw [if_pos ok] at hr
    obtain ⟨ys, T1, h1, h2⟩ := bind_ok hr
    refine ⟨_, L, T, G, ρ2, S, ?_⟩
    rw [h1]
    intro J L3 G3 H3 l3 g3 S3 wk hz
    exact lloop hb hv ok S3 (dr.mono l3 g3) wk h2 (fun L T G H σ ρ o ks ks' T' Nx S dr hr K => tral_end hx S dr hr K) fun L4 G4 H4 o4 l4 g4 S4 dr4 => K L4 G4 H4 o4 (l3.trans l4) (g3.trans g4) S4 dr4
  · rw [if_neg ok] at hr; cases hr
end
section
variable {c : Cfg} {W : WX} {src src1 : Sr} {b b1 : Bd} {t t1 : Tx} {el : Ex} {is vs is1 vs1 : List Nat} {σ : L2.St} {H : Hp} {Q : VK}
theorem lc2_end (hb : BdOk b is) (hv : ∀ i ∈ is, i ∈ vs) (hb1 : BdOk b1 is1) (hv1 : ∀ i ∈ is1, i ∈ vs1) (q : tO c W (oLc2 src b t src1 b1 t1 el vs vs1) σ H Q) : tLc2 (tI c W src) (gD c is b) (tT c W0 t) (tI c W0 src1) (gD c is1 b1) (tT c W0 t1) (tD c W0 el) vs vs1 σ H Q := by
  obtain ⟨e, L, T, G, ρ, S, p⟩ := q
  refine ⟨e, L, T, G, ρ, S, ?_⟩
  unfold oLc2 at p
  by_cases ok : okW ρ vs = true
  · rw [if_pos ok] at p
    cases hr : src ρ T with
    | bad => rw [bnd_bad hr] at p; exact p
    | exn k T' => rw [bnd_exn hr] at p; exact p
    | ok xs T0 =>
      rw [bnd_ok hr] at p
      intro J L0 G0 H0 l0 g0 S0 wk hz D hD
      cases hr2 : noX (acF (wipeE ρ vs) b t (al2 src1 b1 t1 el vs1) xs []) T0 with
      | bad => rw [hr2] at p; exact p.elim
      | exn k T' => unfold noX at hr2; cases q2 : acF (wipeE ρ vs) b t (al2 src1 b1 t1 el vs1) xs [] T0 <;> rw [q2] at hr2 <;> cases hr2
      | ok r T2 =>
        rw [hr2] at p
        have all := noX_ok hr2
        have nx := S0.notx hD
        have S1 : Sta c (e.add (D, .lst [])) L0 T0 G0 (upd H0 D (.lst [])) σ ρ := (S0.grow hD).addx upd_same (S0.gnone hD) (S0.notcell hD) (S0.notcell0 hD) (S0.h0none hD (S0.notcell hD) (S0.notcell0 hD)) (S0.notslot hD)
        refine lloop (TR := trIn (tI c W0 src1) (gD c is1 b1) (tT c W0 t1) (trAl (tD c W0 el)) vs1 D) (END := fun H => Q (.ref D) H) hb hv ok S1 ⟨[], rfl, .nil, Nat.zero_le _⟩ wk all (fun L T G H σ2 ρ2 o ks ks' T' Nx S dr hr K => tralin_end hb1 hv1 nx S dr hr K) fun L4 G4 H4 o4 l4 g4 S4 dr4 => ?_
        obtain ⟨k1, k2, k3, k4, k5, k6⟩ := S4.hadx
        obtain ⟨vv, rfl, rv, hz4⟩ := dr4
        exact p D L4 G4 H4 (l0.trans l4) (g0.trans g4) S4.delx ⟨⟨vv, k1, rv, hz4⟩, k2, k3, k4, k5, nx, k6⟩
  · rw [if_neg ok] at p; exact p.elim
end
section
variable {X : Cx} {c : Cfg} {W : WX} {k : Nat} {src src1 : Sr} {b b1 : Bd} {t t1 : Tx} {el : Ex} {is is1 : List Nat} {elt tg it tg1 it1 : Expr} {ifs ifs1 : List Expr} {scope : Scope} {pos spos py : Pos} {y : Str}
/-- [elt for tg in it if .. for tg1 in it1 if ..] -/
theorem do_lc2 (own : List (Str × Nat)) (vs1 : List Nat) (h : Ctx X c W k) (hi : PI X tg it (tI c W src)) (ok : BlkOk X.N X.env.scope scope own) (hb : BdOk b is) (hv : ∀ i ∈ is, i ∈ own.map (·.2)) (hb1 : BdOk b1 is1) (hv1 : ∀ i ∈ is1, i ∈ vs1) (hvs : ∀ i ∈ vs1, i ∈ own.map (·.2))
    (hin : ∀ (s : Shared) (H : Hp) (C : Addr) (cl : List (Str × Addr)) (fp : List Addr), Ctx (X.blk s H scope (compEnvC scope cl C X.env) fp) c W0 k →
      PG (X.blk s H scope (compEnvC scope cl C X.env) fp) tg (gD c is b) ∧ PTs (X.blk s H scope (compEnvC scope cl C X.env) fp) ifs (tT c W0 t) ∧ PI (X.blk s H scope (compEnvC scope cl C X.env) fp) tg1 it1 (tI c W0 src1) ∧
      PG (X.blk s H scope (compEnvC scope cl C X.env) fp) tg1 (gD c is1 b1) ∧ PTs (X.blk s H scope (compEnvC scope cl C X.env) fp) ifs1 (tT c W0 t1) ∧ PE (X.blk s H scope (compEnvC scope cl C X.env) fp) elt (tD c W0 el))
    (hs : ∀ x, foldedSetIterable it X.env x = pure x := by intro _; rfl) (hs1 : ∀ env x, foldedSetIterable it1 env x = pure x := by intro _ _; rfl) :
    PE X (.ListComp elt [⟨tg, it, ifs, 0⟩, ⟨tg1, it1, ifs1, 0⟩] scope pos) (tO c W (oLc2 src b t src1 b1 t1 el (own.map (·.2)) vs1)) :=
  (pe_lc2 h.calm h.nd hi ok hvs (fun s H C cl fp => (hin s H C cl fp (h.blk ..)).1) (fun s H C cl fp => (hin s H C cl fp (h.blk ..)).2.1) (fun s H C cl fp => (hin s H C cl fp (h.blk ..)).2.2.1) (fun s H C cl fp => (hin s H C cl fp (h.blk ..)).2.2.2.1) (fun s H C cl fp => (hin s H C cl fp (h.blk ..)).2.2.2.2.1)
    (fun s H C cl fp => (hin s H C cl fp (h.blk ..)).2.2.2.2.2) hs hs1).imp fun σ H Q q => lc2_end hb hv hb1 hv1 q
/-- name = [..] -/
theorem ds_setLc2 (i : Nat) (own : List (Str × Nat)) (vs1 : List Nat) (h : Ctx X c W k) (hi : PI X tg it (tI c W src)) (ok : BlkOk X.N X.env.scope scope own) (hb : BdOk b is) (hv : ∀ i ∈ is, i ∈ own.map (·.2)) (hb1 : BdOk b1 is1) (hv1 : ∀ i ∈ is1, i ∈ vs1) (hvs : ∀ i ∈ vs1, i ∈ own.map (·.2))
    (hin : ∀ (s : Shared) (H : Hp) (C : Addr) (cl : List (Str × Addr)) (fp : List Addr), Ctx (X.blk s H scope (compEnvC scope cl C X.env) fp) c W0 k →
      PG (X.blk s H scope (compEnvC scope cl C X.env) fp) tg (gD c is b) ∧ PTs (X.blk s H scope (compEnvC scope cl C X.env) fp) ifs (tT c W0 t) ∧ PI (X.blk s H scope (compEnvC scope cl C X.env) fp) tg1 it1 (tI c W0 src1) ∧
      PG (X.blk s H scope (compEnvC scope cl C X.env) fp) tg1 (gD c is1 b1) ∧ PTs (X.blk s H scope (compEnvC scope cl C X.env) fp) ifs1 (tT c W0 t1) ∧ PE (X.blk s H scope (compEnvC scope cl C X.env) fp) elt (tD c W0 el))
    (hy : X.N[i]? = some y := by rfl) (hyl : X.env.scope.names.lookup y = some .local := by rfl) (hsw : swapsWith (.ListComp elt [⟨tg, it, ifs, 0⟩, ⟨tg1, it1, ifs1, 0⟩] scope pos) (some (.Name y py)) spos.line X.env = pure true := by rfl)
    (hs : ∀ x, foldedSetIterable it X.env x = pure x := by intro _; rfl) (hs1 : ∀ env x, foldedSetIterable it1 env x = pure x := by intro _ _; rfl) :
    PS X (.Assign [.Name y py] (.ListComp elt [⟨tg, it, ifs, 0⟩, ⟨tg1, it1, ifs1, 0⟩] scope pos) spos) (tS c W (sSetO i (oLc2 src b t src1 b1 t1 el (own.map (·.2)) vs1))) := by
  refine (ps_setLc2 h.calm h.nd hy hyl hsw hi ok hvs (fun s H C cl fp => (hin s H C cl fp (h.blk ..)).1) (fun s H C cl fp => (hin s H C cl fp (h.blk ..)).2.1) (fun s H C cl fp => (hin s H C cl fp (h.blk ..)).2.2.1) (fun s H C cl fp => (hin s H C cl fp (h.blk ..)).2.2.2.1) (fun s H C cl fp => (hin s H C cl fp (h.blk ..)).2.2.2.2.1)
    (fun s H C cl fp => (hin s H C cl fp (h.blk ..)).2.2.2.2.2) hs hs1).imp fun D σ H q => ?_
  refine lc2_end hb hv hb1 hv1 ?_
  obtain ⟨e, L, T, G, ρ, S, p⟩ := q
  refine ⟨e, L, T, G, ρ, S, ?_⟩
  unfold sSetO at p
  cases hr : oLc2 src b t src1 b1 t1 el (own.map (·.2)) vs1 ρ T with
  | bad => rw [bnd_bad hr] at p; exact p
  | exn k T' => rw [bnd_exn hr] at p; exact fun L' G' H' h1 h2 S' => p L' G' H' σ ρ h1 h2 S'
  | ok ds T' =>
    rw [bnd_ok hr] at p
    exact fun q L' G' H' h1 h2 S' fr => p L' G' H' _ h1 h2 (S'.putO fr)
end
end WW
set_option maxHeartbeats 1000000
namespace WW
open PySem PySem.Spec PyProof.Rows L2
def rgD (a b : Int) : List D := (List.range (b - a).toNat).map fun i => D.int (a + (i : Nat))
def rgOk (a b : Int) : Bool := decide (-(2 ^ 62) ≤ a) && decide (a < 2 ^ 62) && decide (-(2 ^ 62) ≤ b) && decide (b < 2 ^ 62) && decide ((b - a).toNat ≤ 2 ^ 24)
theorem rgOk_ok {a b : Int} (h : rgOk a b = true) : RgOk a b := by
  simp only [rgOk, Bool.and_eq_true, decide_eq_true_eq] at h
  exact ⟨h.1.1.1.1, h.1.1.1.2, h.1.1.2, h.1.2, h.2⟩
def lrgM (a b : Int) : M (List D) := if rgOk a b = true then M.ret (rgD a b) else M.fail
def oRg1 (f : Ex) : Ox := fun ρ => f ρ >>= fun x => match x with
  | .int n => lrgM 0 n
  | _ => M.fail
def oRg2 (f g : Ex) : Ox := fun ρ => f ρ >>= fun x => g ρ >>= fun y => match x, y with
  | .int a, .int b => lrgM a b
  | _, _ => M.fail
theorem rgD_rep {c : Cfg} {L : List (List Addr)} {G : Hp} (a b : Int) : RepL c L G (rgV a b) (rgD a b) := by
  unfold rgV rgD
  generalize (List.range (b - a).toNat) = l
  induction l with
  | nil => exact .nil
  | cons i l ih => exact .cons (.int _) ih
section
variable {X : Cx} {c : Cfg} {W : WX} {k : Nat} {a b : Expr} {fa fb : Ex} {pos p p1 pos1 : Pos}
theorem do_listRg1 (h : Ctx X c W k) (ha : PE X a (tD c W fa)) (ns : NS a := by intro _ _; rfl) (hg : Gl X "range" := by rfl) (hg2 : Gl X "list" := by rfl) (na : starEach [.Call (.Name "range" p1) [a] [] pos1] X.env = (false, eval (.Call (.Name "range" p1) [a] [] pos1) X.env) :: starEach [] X.env := by rfl) :
    PE X (.Call (.Name "list" p) [.Call (.Name "range" p1) [a] [] pos1] [] pos) (tO c W (oRg1 fa)) := (pe_listRg h.calm hg2 h.bl.list (prg_1 hg h.bl.range ha (ns _ _)) na).imp fun σ H Q q => by
  obtain ⟨e, L, T, G, ρ, S, p⟩ := q
  refine ⟨e, L, T, G, ρ, S, ?_⟩
  unfold oRg1 at p
  cases hr : fa ρ T with
  | bad => rw [bnd_bad hr] at p; exact p
  | exn k T' => rw [bnd_exn hr] at p; exact p
  | ok d T' =>
    rw [bnd_ok hr] at p
    intro v L' G' H' h1 h2 S' r
    cases r with
    | int n =>
      simp only [lrgM] at p
      by_cases z : rgOk 0 n = true
      · rw [if_pos z] at p
        have zz := rgOk_ok z
        refine ⟨n, rfl, zz, fun q hq => p q L' G' _ h1 h2 (S'.grow hq) (S'.fresh hq (rgD_rep 0 n) ?_)⟩
        simp only [rgD, List.length_map, List.length_range]
        have := zz.2.2.2.2
        rw [sizeLine_eq]; omega
      · rw [if_neg z] at p; exact p.elim
    | _ => exact p.elim
end
end WW
set_option maxHeartbeats 1000000
namespace WW
open PySem PySem.Spec PyProof.Rows L2
structure FnK (c : Cfg) (mg : Str → Option Value) (base : Heap) (x : Str) (ps : List Str) (n : Nat) (y : Str) (k : Nat) (F : List D → M D) : Prop where
  ex : ∃ f fd a0, mg x = some (.ref f) ∧ PySem.W.keepIn c.K (.ref f) = true ∧ GT c a0 [] ∧ (∃ ds, Vals [V.ref a0] ds ∧ Binds c.K fd ps ds) ∧ KBn c.K fd ps n [y] (fun us ws => us ++ ws) (fun vs zs => vs ++ zs) ∧ FnOk c.P c.w c.K mg base (L2.CX c.P c.w) k f fd ps (spF c ps.length F)
theorem FunD.kall {K : PySem.W.Frag} {x qual : Str} {params : Arguments} {body : List Stmt} {scope : Scope} {kws : List (Str × V)} {f : Addr} {fd : FuncData} {ps : List Str} (F : FunD K x qual params body scope [] kws f fd) (n : Nat) (y : Str)
    (h : ∀ (kV doc pm : Value) (an : Option Addr) (cdv ct : Value) (us ws : List Value), us.length = n → ws.length = 1 → bindArgs (PySem.W.fnOf x qual params body scope .none kV doc pm an cdv ct) ⟨us, [y].zip ws⟩ = pure (ps.zip (us ++ ws))) : KBn K fd ps n [y] (fun us ws => us ++ ws) (fun vs zs => vs ++ zs) := by
  obtain ⟨oc, od, dV, kV, doc, pm, an, cdv, ct, osl, rfl, lk, hcd, hD, hK⟩ := F.ex
  rcases hD with ⟨_, rfl⟩ | ⟨e, _⟩
  · exact ⟨fun s us ws X l1 l2 => .of_eq (h kV doc pm an cdv ct us ws l1 l2), fun r1 r2 => r1.append r2⟩
  · exact absurd rfl e
section
variable {c : Cfg} {mg : Str → Option Value} {base : Heap} {x y : Str} {ps N : List Str} {pr : Arguments} {body : List Stmt} {sc : Scope} {k : Nat} {fb : Sx}
theorem FnK.of {f : Addr} {fd : FuncData} {kws : List (Str × V)} {a0 : Addr} (n m : Nat) (F : FunD c.K x x pr body sc [] kws f fd) (S : FnScope N ps sc) (hm : mg x = some (.ref f)) (hB : ∃ ds, Vals [V.ref a0] ds ∧ Binds c.K fd ps ds) (hK : KBn c.K fd ps m [y] (fun us ws => us ++ ws) (fun vs zs => vs ++ zs)) (g : GT c a0 []) (bl : BL mg) (hN : N.length = n)
    (hb : ∀ (cdv : Value) (A : Around) (outer : List Env) (s : Shared) (H : Hp) (E : XK), Ctx (CxW c mg base N x sc f cdv A outer s H E) c (WX0 E) k → PassesOwn (model c.P c.w) (CxW c mg base N x sc f cdv A outer s H E).A (CxW c mg base N x sc f cdv A outer s H E).env (CxW c mg base N x sc f cdv A outer s H E).xe →
      PSs (CxW c mg base N x sc f cdv A outer s H E) body (tS c (WX0 E) fb)) : FnK c mg base x ps m y (k + 1) (runB n fb) := by
  refine ⟨f, fd, a0, hm, F.kp, g, hB, hK, F.ok S (fun vs H Q E h => h.1) fun cdv A outer s H vs Q E hr h => ⟨tS c (WX0 E) fb, hb cdv A outer s H E ⟨rfl, rfl, rfl, rfl, S.nd, hr, takes_of rfl rfl rfl rfl, bl⟩ (passes_of rfl), ?_⟩⟩
  obtain ⟨hl, L, T, G, ds, sub, st, nd, lf, r, p⟩ := h
  refine ⟨⟨L, H, G, [], []⟩, L, T, G, startE n ds, sta_start sub st nd lf r n hN, ?_⟩
  unfold runB at p
  cases hr : fb (startE n ds) T with
  | bad => rw [bnd_bad hr] at p; exact p
  | exn j T' =>
    rw [bnd_exn hr] at p
    exact fun L' G' H' σ' ρ' h1 h2 S' => p L' G' H' (after_of S' h1 h2)
  | ok fl T' =>
    rw [bnd_ok hr] at p
    cases fl with
    | nx ρ' => exact fun L' G' H' σ' h1 h2 S' => p .non L' G' H' (after_of S' h1 h2) .non
    | rt d => exact fun v L' G' H' σ' ρ' h1 h2 S' rv => p v L' G' H' (after_of S' h1 h2) rv
    | bk ρ' => exact False.elim p
    | ct ρ' => exact False.elim p
end
section
variable {X : Cx} {c : Cfg} {W : WX} {k j n : Nat} {x y : Str} {ps : List Str} {F : List D → M D} {p pos kp : Pos} {a b : Expr} {es : List Expr} {fs : List Ex} {fl : Ex}
/-- the callee's promise, from the data of its arguments -/
theorem fn_run {e : Gh} {L : List (List Addr)} {T : List Cell} {G H : Hp} {σ : L2.St} {ρ : En} {Q : VK} {vs : List V} {ds : List D} (S : Sta c e L T G H σ ρ) (rv : RepL c L G vs ds) (hl : ds.length = ps.length) (p : PostG c e W σ ρ (Rep c) L G (F ds T) Q) : spF c ps.length F vs H Q (WE W σ) := by
  refine ⟨by rw [rv.length, hl], L, T, G, ds, S.subS, S.store, S.ldist, S.lfree, rv, ?_⟩
  revert p
  cases F ds T with
  | bad => exact id
  | exn k t => exact fun p L2 G2 H2 P => p L2 G2 H2 P.le P.ge (S.after P)
  | ok y t => exact fun p v L2 G2 H2 P r => p v L2 G2 H2 P.le P.ge (S.after P) r
theorem run_fnNS {CX : CXT} {f : Addr} {fd : FuncData} {sp : Sp} {E : XK} {ks : List Str} {g : List Value → List Value → List Value} {gV : List V → List V → List V} {pins : List (Addr × Obj)} {σ : L2.St} {H : Hp} {s : Shared} {Q : VK} {us ws : List Value} {vs zs : List V} (F : FnOk X.prog X.w X.K X.mg X.base CX k f fd ps sp) (hr : Room k X.A) (hb : KBn X.K fd ps n ks g gV) (hx : PassesAt CX X σ E)
    (I : Inv X pins σ H s) (r : Vals vs us) (rz : Vals zs ws) (l1 : vs.length = n) (l2 : zs.length = ks.length) (h : sp (gV vs zs) H Q E) : wpAny (model X.prog X.w) X.A (call (.ref f) us (ks.zip ws)) (EP X pins σ Q) X.xe s := by
  have r2 := hb.rel r rz
  refine wpAny_call (codeAny_mono (F.run X.A X.stack s H ⟨us, ks.zip ws⟩ (g us ws) (gV vs zs) Q E hr I.env0 (hb.to s us ws I.kIn (r.length.symm.trans l1) (rz.length.symm.trans l2)) r2 h) fun r s' hq => ?_)
  cases r with
  | error e => exact hx pins H s e s' I hq
  | ok fl =>
    cases fl with
    | ret u => exact I.after hq
    | next => exact False.elim hq
    | brk => exact False.elim hq
    | cont => exact False.elim hq
def tCallNS (n m : Nat) (sp : Sp) (gV : List V → List V → List V) (E : L2.St → XK) (t tk : TA) : TE := fun σ H Q => t σ H fun vs H1 => tk σ H1 fun zs H2 => vs.length = n ∧ zs.length = m ∧ sp (gV vs zs) H2 Q (E σ)
theorem pe_callNS {CX : CXT} {f : Addr} {fd : FuncData} {sp : Sp} {E : L2.St → XK} {ks : List Str} {kws : List Keyword} {t tk : TA} {e : Expr} {g : List Value → List Value → List Value} {gV : List V → List V → List V} (F : FnOk X.prog X.w X.K X.mg X.base CX k f fd ps sp) (hr : Room k X.A) (hg : Gl X x) (hm : X.mg x = some (.ref f)) (hk : PySem.W.keepIn X.K (.ref f) = true) (hb : KBn X.K fd ps n ks g gV) (hx : ∀ σ, PassesAt CX X σ (E σ))
    (ha : PA X (e :: es) t) (hkw : PK X kws tk) (hall : (backToKw pos (keywordEach kws X.env)).all (·.1.isSome) = true := by rfl) (hks : (backToKw pos (keywordEach kws X.env)).filterMap (·.1) = ks := by rfl)
    (hdb : (x == ("__debug__" : Str)) = false := by decide) (he : starEach (e :: es) X.env = (false, eval e X.env) :: starEach es X.env := by rfl)
    (hpl : ((backTo pos (starEach (e :: es) X.env)).any (·.1) || (backToKw pos (keywordEach kws X.env)).any (·.1.isNone)) = false := by rfl) :
    PE X (.Call (.Name x p) (e :: es) kws pos) (tCallNS n ks.length sp gV E t tk) := by
  refine ⟨fun pins s σ H Q I h => ?_⟩
  refine wpAny_Call_Name_kw (ld_glob I hg hm ?_ hdb)
  refine PySem.W.callWith_KW (h₀ := X.base) I.ok.mod.kin hk hall (thn (ha.run pos pins s σ H _ I h) fun us s1 ⟨vs, H1, I1, r, q⟩ => ?_) hpl he
  refine thn (hkw.run pos pins s1 σ H1 _ I1 q) fun ws s2 ⟨zs, H2, I2, rz, l1, l2, q2⟩ => ⟨I2.kIn, ?_⟩
  rw [hks]
  exact run_fnNS F hr hb (hx σ) I2 r rz l1 l2 q2
/-- f(e, ..) with the parameter y left out -/
def dCallD (F : List D → M D) (as : List Ex) : Ex := fun ρ => dArgs as ρ >>= fun ds => F (ds ++ [.tup []])
/-- f(e, .., y = b) -/
def dCallK (F : List D → M D) (as : List Ex) (g : Ex) : Ex := fun ρ => dArgs as ρ >>= fun ds => g ρ >>= fun d => F (ds ++ [d])
theorem de_fnD (h : Ctx X c W k) (C : FnK c X.mg X.base x ps n y j F) (ha : PA X (a :: es) (tL c W (dArgs fs))) (hl : fs.length + 1 = ps.length := by rfl) (hj : j ≤ k := by decide) (hg : Gl X x := by rfl) (hdb : (x == ("__debug__" : Str)) = false := by decide)
    (ns : NS a := by intro _ _; rfl) (hpl : (backTo pos (starEach es X.env)).any (·.1) = false := by rfl) :
    PE X (.Call (.Name x p) (a :: es) [] pos) (tD c W (dCallD F fs)) := by
  obtain ⟨f, fd, a0, h1, h2, gt, ⟨ds0, h3a, h3⟩, _, h4⟩ := C.ex
  have h4' : FnOk X.prog X.w X.K X.mg X.base (L2.CX X.prog X.w) j f fd ps (spF c ps.length F) := by rw [h.hP, h.hw, h.hK]; exact h4
  have h3' : Binds X.K fd ps ds0 := by rw [h.hK]; exact h3
  have h2' : PySem.W.keepIn X.K (.ref f) = true := by rw [h.hK]; exact h2
  refine (pe_callSD h4' (h.room.mono hj) hg h1 h2' h3' h3a (fun σ => passAt h.tk σ) ha hdb (ns _ _) hpl).imp fun σ H Q ⟨e, L, T, G, ρ, S, p⟩ => ⟨e, L, T, G, ρ, S, ?_⟩
  unfold dCallD at p
  cases hr : dArgs fs ρ T with
  | bad => rw [bnd_bad hr] at p; exact p
  | exn k T' => rw [bnd_exn hr] at p; exact p
  | ok ds T' =>
    rw [bnd_ok hr] at p
    intro vs L' G' H' l1 g1 S' rv
    exact fn_run S' (rv.snoc (gt.rep L' G')) (by rw [List.length_append, dArgs_length fs _ _ _ _ hr]; exact hl) (PostG.up p l1 g1)
theorem de_fnK (h : Ctx X c W k) (C : FnK c X.mg X.base x ps n y j F) (ha : PA X (a :: es) (tL c W (dArgs fs))) (hb : PE X b (tD c W fl)) (hn : fs.length = n := by rfl) (hl : fs.length + 1 = ps.length := by rfl) (hj : j ≤ k := by decide) (hg : Gl X x := by rfl) (hdb : (x == ("__debug__" : Str)) = false := by decide)
    (ns : NS a := by intro _ _; rfl) (hall : (backToKw pos (keywordEach [⟨some y, b, kp⟩] X.env)).all (·.1.isSome) = true := by rfl) (hks : (backToKw pos (keywordEach [⟨some y, b, kp⟩] X.env)).filterMap (·.1) = [y] := by rfl)
    (hpl : ((backTo pos (starEach (a :: es) X.env)).any (·.1) || (backToKw pos (keywordEach [⟨some y, b, kp⟩] X.env)).any (·.1.isNone)) = false := by rfl) :
    PE X (.Call (.Name x p) (a :: es) [⟨some y, b, kp⟩] pos) (tD c W (dCallK F fs fl)) := by
  obtain ⟨f, fd, a0, h1, h2, gt, _, h3, h4⟩ := C.ex
  have h4' : FnOk X.prog X.w X.K X.mg X.base (L2.CX X.prog X.w) j f fd ps (spF c ps.length F) := by rw [h.hP, h.hw, h.hK]; exact h4
  have h3' : KBn X.K fd ps n [y] (fun us ws => us ++ ws) (fun vs zs => vs ++ zs) := by rw [h.hK]; exact h3
  have h2' : PySem.W.keepIn X.K (.ref f) = true := by rw [h.hK]; exact h2
  refine (pe_callNS h4' (h.room.mono hj) hg h1 h2' h3' (fun σ => passAt h.tk σ) ha (pk_cons hb pk_nil) hall hks hdb (ns _ _) hpl).imp fun σ H Q ⟨e, L, T, G, ρ, S, p⟩ => ⟨e, L, T, G, ρ, S, ?_⟩
  unfold dCallK at p
  cases hr : dArgs fs ρ T with
  | bad => rw [bnd_bad hr] at p; exact p
  | exn k T' => rw [bnd_exn hr] at p; exact p
  | ok ds T' =>
    rw [bnd_ok hr] at p
    intro vs L' G' H' l1 g1 S' rv
    refine ⟨e, L', T', G', ρ, S', ?_⟩
    cases hr2 : fl ρ T' with
    | bad => rw [bnd_bad hr2] at p; exact p
    | exn k T' => rw [bnd_exn hr2] at p; exact PostG.up (r := Rs.exn k T') (R := Rep c) (Q := Q) p l1 g1
    | ok d T2 =>
      rw [bnd_ok hr2] at p
      intro v L2 G2 H2 l2 g2 S2 rd
      refine ⟨by rw [rv.length, dArgs_length fs _ _ _ _ hr]; exact hn, rfl, ?_⟩
      exact fn_run S2 ((rv.up l2 g2).snoc rd) (by rw [List.length_append, dArgs_length fs _ _ _ _ hr]; exact hl) (PostG.up p (l1.trans l2) (g1.trans g2))
end
end WW
set_option maxHeartbeats 1000000
namespace WW
open PySem PySem.Spec PyProof.Rows L2
theorem _root_.L2.Inv.track {X : Cx} {pins : List (Addr × Obj)} {σ : L2.St} {H : Hp} {s : Shared} {a : Addr} {o : HO} {ob : Obj} {vs : Array Value} (I : Inv X pins σ H s) (n0 : X.s_0.heap.get? a = none) (hn : H a = none) (ha : s.heap.get? a = some ob) (hd : ob.data = .fields vs) (nL : a ≠ X.env.locals)
    (np : ∀ p ∈ X.pn ++ pins, p.1 ≠ a) (new : ObjOk X.prog X.w (upd H a o) s.heap a o) : Inv X pins σ (upd H a o) s := by
  have ne0 : ∀ b u, X.s_0.heap.get? b = some u → b ≠ a := fun b u e z => by rw [z, n0] at e; cases e
  have cne : ∀ x c, X.env.cells.lookup x = some c → c ≠ a := fun x c e z => by
    obtain ⟨v, w, hw, hc⟩ := I.cell x c e
    rw [z, ha] at hw
    cases hw
    rw [hd] at hc
    cases hc
  refine ⟨I.ok, I.os, I.bare, ⟨I.base.keep, I.base.slot, fun b u e n hx => ?_, I.base.there, fun b xs e => ?_, fun b u w e => ?_, fun b ps e => ?_⟩, I.loc, I.cell, ?_, fun x c e => ?_, fun p hp => ?_, I.hok.laidN (fun _ _ e => e) hn new, I.len⟩
  · rw [upd_ne (ne0 b u e)]; exact I.base.free b u e n hx
  · have q := I.base.tups b xs e
    rw [upd_ne (ne_of_none q hn)]; exact q
  · have q := I.base.frzs b u w e
    rw [upd_ne (ne_of_none q hn)]; exact q
  · obtain ⟨m, q⟩ := I.base.tbls b ps e
    exact ⟨m, by rw [upd_ne (ne_of_none q hn)]; exact q⟩
  · rw [upd_ne (Ne.symm nL)]; exact I.free
  · rw [upd_ne (cne x c e)]; exact I.freeC x c e
  · obtain ⟨e, n, ne, nf, d⟩ := I.pin p hp
    exact ⟨e, by rw [upd_ne (np p hp)]; exact n, ne, nf, d⟩
end WW
set_option maxHeartbeats 1000000
namespace WW
open PySem PySem.Spec PyProof.Rows L2
def rIsX (c : Cfg) : List V → Hp → VK → Prop := fun xs H Q => ∃ (a : Addr) (k : Nat) (t : V) (tv : Value) (b : Bool), xs = [.ref a, t] ∧ H a = some (excObj c k a) ∧ ExcC c.K (c.CA k) ∧ (∀ u, RelV t u → u = tv) ∧ PySem.W.kitOne c.K (.ref (c.CA k)) tv = some b ∧ Q (.bl b) H
theorem call_isX {X : Cx} {c : Cfg} (hK : X.K = c.K) : CallR X (.builtin "isinstance") (rIsX c) := by
  intro pins s σ H xs us Q I r h
  obtain ⟨a, k, t, tv, b, rfl, hH, C, hcv, e, q⟩ := h
  rw [← hK] at C e
  cases r with
  | cons rx rr =>
    cases rr with
    | cons rt rr =>
      cases rr
      cases rx
      have ec := hcv _ rt
      subst ec
      obtain ⟨⟨oe, vs, hget, hcls, hdict, hv⟩, _⟩ := I.hok a _ hH
      have J : PySem.W.InstAt s.heap a oe (c.CA k) none := by
        obtain ⟨oc, od, oda, osl⟩ := oe
        dsimp only at hcls hdict hv
        subst hcls hdict hv
        exact ⟨hget, rfl, rfl, trivial⟩
      exact PySem.W.kia_one (PySem.W.handS_kitx_exc C.hg C.hk C.hs C.hd C.ha C.hn C.ht C.hm) I.kIn J e (fun z => nomatch z) fun tk => ⟨.bl b, H, I.kept (t' := tk) fun _ _ z => z, rfl, q⟩
end WW
set_option maxHeartbeats 2000000
namespace WW
open PySem PySem.Spec PyProof.Rows L2
def wKeep (c : Cfg) (X : Cx) (cv : Value) (i j : Nat) (Wout : WX) (D : Ends) : WX := fun cls d σ H =>
  ∃ b, PySem.W.exmOne X.K cls cv = some b ∧ (b = true → ∃ k, cls = .ref (c.CA k) ∧ d = none ∧ (σ.length = X.N.length → ∀ a, H a = none → D.nx (((σ.set i (some (.ref a))).set j (some (.ref a))).set i none) (upd H a (excObj c k a)))) ∧ (b = false → Wout cls d σ H)
theorem exc_new {P : Program} {w : World} {c : Cfg} {H : Hp} {h : Heap} {a : Addr} {k : Nat} {oe : Obj} {vs : Array Value} (e : h.get? a = some oe) (z : Zc (.ref (c.CA k)) none oe) (hd : oe.data = .fields vs) : ObjOk P w H h a (excObj c k a) :=
  ⟨⟨oe, vs, e, z.1, z.2, hd⟩, ⟨oe, e⟩, fun h1 h2 ⟨o, u, e1, e2, e3, e4⟩ kp => ⟨o, u, kp _ e1, e2, e3, e4⟩⟩
section
variable {X : Cx} {c : Cfg} {x y n : Str} {cv : Value} {i j : Nat} {body : List Stmt} {np pos pos' py pe2 sp : Pos} {tb : WX → TS} {Wout : WX}
theorem ps_try_keep (hP : X.prog = c.P) (hw : X.w = c.w) (hs : X.stack = X.env :: X.outer) (hf : X.env.frame = some X.env.locals) (hex : X.ex = []) (hN : X.N.Nodup) (hi : X.N[i]? = some n) (hln : X.env.kindOf n = some .local) (hj : X.N[j]? = some y) (hlj : X.env.kindOf y = some .local)
    (hc : Names X x cv) (tk : Takes X Wout) (hdb : (n == ("__debug__" : Str)) = false) (hcd : (n == ("__classdict__" : Str)) = false) (hsw : swapsWith (.Name n pe2) (some (.Name y py)) sp.line X.env = pure false)
    (hb : ∀ (W : WX) (pn : List (Addr × Obj)) (xe : Value → Shared → Prop), Takes (X.tr pn xe) W → PassesOwn (model X.prog X.w) X.A X.env xe → PSs (X.tr pn xe) body (tb W)) :
    PS X (.Try body [.ExceptHandler (some (.Name x np)) (some n) [.Assign [.Name y py] (.Name n pe2) sp] pos'] [] [] pos) (fun D σ H => tb (wKeep c X cv i j Wout D) D σ H) := by
  refine ⟨fun pins s σ H D I h => ?_⟩
  have ok := I.ok
  have hfr : X.A.frames = some (X.env :: X.outer) := by rw [ok.frames, hs]
  have hloc : Loc X.env.scope n := .inl hln
  refine wpAny_Try_except ?_
  refine wpAny_mono ((hb (wKeep c X cv i j Wout D) (X.pn ++ pins) (fun e s₁ => wpAny (model X.prog X.w) X.A (noteFrame e X.env) (fun _ s₂ => wpAny (model X.prog X.w) X.A (setFlight e none) (fun _ s₃ =>
    wpAny (model X.prog X.w) X.A (handleBy e X.env [.ExceptHandler (some (.Name x np)) (some n) [.Assign [.Name y py] (.Name n pe2) sp] pos']) (SP X pins D) X.xe s₃) X.xe s₂) X.xe s₁) (fun u s' xx => ?_) PassesOwn.looking).run [] s σ H D (I.toTry _) h) (fun f s1 hsp => ?_) (fun e s1 he => he)
  · obtain ⟨a, B, sI, pins', σ', H', cls, d, rfl, J', nb, up, sky, na, os, ag, b, hb1, hyes, hno⟩ := xx
    have J : Inv X pins σ' H' sI := J'.ofTry ok
    have sky' : Sky B (X.env :: X.outer) a (Zc cls d) X.env.locals s'.heap := by rw [← hs]; exact sky
    show wpAny (model X.prog X.w) X.A (noteFrame (.ref a) X.env) _ _ _
    refine Sky.land Zc.steady hfr hf sky' fun h3 fl3 up3 => ?_
    have J3 : Inv X pins σ' H' { s' with heap := h3 } := J.landed nb fl3.1 (up.trans up3) os ag
    obtain ⟨oe3, vs3, he3, hz3, hd3⟩ := fl3.there
    have notFr : ∀ {h : Heap} {o : Obj} {vs : Array Value}, h.FunFrames B (X.env :: X.outer) → h.get? a = some o → o.data = .fields vs → a ∉ frs (X.env :: X.outer) := fun {h o vs} ff e dd hm => by
      obtain ⟨_, o', e', hnf⟩ := ff.mem hm
      rw [e] at e'; cases e'
      exact hnf _ dd
    have nfr := notFr fl3.2.2.1 he3 hd3
    have nI : sI.heap.get? a = none := by
      cases q : sI.heap.get? a with
      | none => rfl
      | some o =>
        have z := nb a o q (by rw [show (X.tr (X.pn ++ pins) _).stack = X.env :: X.outer from hs]; exact nfr)
        rw [fl3.2.1] at z; cases z
    have n0 : X.s_0.heap.get? a = none := by
      cases q : X.s_0.heap.get? a with
      | none => rfl
      | some o =>
        obtain ⟨o', z⟩ := J.base.there a o q (by rw [hex]; simp)
        rw [nI] at z; cases z
    have np' : ∀ p ∈ X.pn ++ pins, p.1 ≠ a := fun p hp z => by
      have := (J.pin p hp).1
      rw [z, nI] at this; cases this
    have nL : a ≠ X.env.locals := fun z => nfr (List.mem_filterMap.mpr ⟨X.env, List.mem_cons_self, by rw [hf, z]⟩)
    have nF : a ∉ X.fs := fun hm => by
      obtain ⟨e, he, q⟩ := List.mem_filterMap.mp hm
      exact nfr (List.mem_filterMap.mpr ⟨e, List.mem_cons_of_mem _ he, q⟩)
    have S3 := J3.suite he3 hd3 na nL nF
    refine wpAny_handleBy_cons (codeAny_handlers_test ?_) (by intro q; cases q)
    have LT : PySem.W.Looks (model X.prog X.w) h3 (typeOf (.ref a)) cls := fun A Q E s k q => wpAny_typeOf_ref (k _ _ he3) (by rw [hz3.1]; exact q)
    have LM := PySem.W.exm_one (M := model X.prog X.w) (J3.kIn) LT hb1
    have test : ∀ {Q : Value → Shared → Prop} {E : Value → Shared → Prop}, Q cv { s' with heap := h3 } → wpAny (model X.prog X.w) (X.A.mark (some (.ref a))) (eval (.Name x np) X.env) Q E { s' with heap := h3 } := fun {Q E} q => by
      obtain ⟨hg, hdbg, hm | ⟨hm, hv, hnn⟩⟩ := hc
      · exact ld_glob (X := X.suite a ((a, oe3) :: (X.pn ++ pins))) S3 hg hm q hdbg
      · exact ld_blt (X := X.suite a ((a, oe3) :: (X.pn ++ pins))) S3 hg hm hv q hnn hdbg
    refine test (LM.here ?_)
    cases b with
    | true =>
      obtain ⟨k, rfl, rfl, hy2⟩ := hyes rfl
      refine codeAny_handlers_suite_as ?_
      refine HandSPX.lands_againZ fl3 fun h4 fl4 up4 => ?_
      have J4 : Inv X pins σ' H' { s' with heap := h4 } := J.landed nb fl4.1 ((up.trans up3).trans up4) os ag
      obtain ⟨oe4, vs4, he4, hz4, hd4⟩ := fl4.there
      have S4 := J4.suite he4 hd4 na nL nF
      have li : i < σ'.length := by rw [J.len]; exact (List.getElem?_eq_some_iff.mp hi).1
      have hsu : PSs (X.suite a ((a, oe4) :: (X.pn ++ pins))) [.Assign [.Name y py] (.Name n pe2) sp] (tAsg (tVar i) (gName j)) := pss_one (ps_set (X := X.suite a ((a, oe4) :: (X.pn ++ pins))) (i := j) hN hj (.inl hlj) (pe_var (X := X.suite a ((a, oe4) :: (X.pn ++ pins))) hi (.inl hln) hdb hcd) hsw (.inr hlj))
      refine store_ok (X := X.suite a ((a, oe4) :: (X.pn ++ pins))) (v := .ref a) S4 hN hi hloc rfl (fun s5 S5 => ?_) (.inr hln)
      refine wpAny_mono (hsu.run [] s5 _ H' { nx := fun σ6 H6 => σ6 = (σ'.set i (some (.ref a))).set j (some (.ref a)) ∧ H6 = H', rt := fun _ _ => False, bk := fun _ _ => False, ct := fun _ _ => False } S5 ?_) (fun f s6 hsp => ?_) (fun _ _ z => False.elim z)
      · exact ⟨.ref a, List.getElem?_set_self li, rfl, rfl⟩
      · cases f with
        | next =>
          obtain ⟨σ6, H6, S6, q6, q7⟩ := hsp
          subst q6
          have q8 : H6 = H' := q7
          subst q8
          refine gone_ok (X := X.suite a ((a, oe4) :: (X.pn ++ pins))) S6 hN hi hln fun s7 S7 => ?_
          have J7 : Inv X pins _ H6 s7 := S7.unsuite ok
          obtain ⟨hget, _⟩ := S7.pin (a, oe4) (List.mem_append.mpr (.inl List.mem_cons_self))
          exact ⟨_, _, J7.track n0 na hget hd4 nL np' (exc_new hget hz4 hd4), hy2 J.len a na⟩
        | brk =>
          obtain ⟨σ6, H6, S6, q6⟩ := hsp
          exact False.elim q6
        | cont =>
          obtain ⟨σ6, H6, S6, q6⟩ := hsp
          exact False.elim q6
        | ret u =>
          obtain ⟨v6, σ6, H6, S6, r6, q6⟩ := hsp
          exact False.elim q6
    | false =>
      show wpAny _ X.A (handleBy (.ref a) X.env []) _ _ _
      refine wpAny_handleBy_nil ?_
      obtain ⟨k1, k2, k3, oe, vs, T, oT, ts', he, hz, hd, h1, hr⟩ := id fl3
      unfold PySem.passOn
      refine wpAny_bind (wpAny_field he hd h1 ?_)
      rw [if_neg (show ¬ ((Value.ref T == Value.none) = true) from by simp)]
      have fin : wpAny (model X.prog X.w) X.A (setFlight (.ref a) X.env.frame) (fun _ s4 => wpAny (model X.prog X.w) X.A (throw (.ref a) : Sem Flow) (SP X pins D) X.xe s4) X.xe { s' with heap := h3 } := by
        rw [hf]
        refine HandSPX.setFlight_upZ fl3 fun h4 hh4 up4 => wpAny_throw (tk _ _ ?_)
        exact ⟨a, B, sI, pins, σ', H', cls, d, rfl, J, nb, (up.trans up3).trans up4, .inr (.inr (by rw [hs]; exact hh4)), na, os, ag, hno rfl⟩
      first
        | exact wpAny_bind (wpAny_pure (wpAny_bind fin))
        | exact wpAny_bind fin
  · cases f with
    | next =>
      obtain ⟨σ', H', J', q⟩ := hsp
      exact wpAny_execs_nil ⟨σ', H', J'.ofTry ok, q⟩
    | brk =>
      obtain ⟨σ', H', J', q⟩ := hsp
      exact ⟨σ', H', J'.ofTry ok, q⟩
    | cont =>
      obtain ⟨σ', H', J', q⟩ := hsp
      exact ⟨σ', H', J'.ofTry ok, q⟩
    | ret u =>
      obtain ⟨v, σ', H', J', r, q⟩ := hsp
      exact ⟨v, σ', H', J'.ofTry ok, r, q⟩
end
/-- behind the clause only the kept exception is known -/
def sTry (n j : Nat) (f : Sx) : Sx := fun ρ T => match f ρ T with
  | .ok fl T' => .ok fl T'
  | .exn k T' => if k < 9 then .ok (.nx ((List.replicate n none).set j (some (.d (.exc k))))) T' else .bad
  | .bad => .bad
theorem Sta.blank {c : Cfg} {e : Gh} {σ : L2.St} {ρ : En} {L : List (List Addr)} {G H : Hp} {T : List Cell} (S : Sta c e L T G H σ ρ) (σ' : L2.St) {n : Nat} (h : σ'.length = n) : Sta c e L T G H σ' (List.replicate n none) := by
  have no : ∀ {i : Nat} {sv : SV}, (List.replicate n (none : Option SV))[i]? ≠ some (some sv) := fun {i sv} z => by
    rw [List.getElem?_replicate] at z
    split at z <;> cases z
  refine ⟨S.sub, S.same, S.store, S.ldist, S.lfree, S.lmem0, S.l0free, S.gnew, S.l0there, S.l0h, by rw [h, List.length_replicate], fun i sv z => absurd z no, fun q hq => ?_, fun i j x y _ z => absurd z no⟩
  obtain ⟨h1, h2, h3, h4, h5, _⟩ := S.xown q hq
  exact ⟨h1, h2, h3, h4, h5, fun i sv z => absurd z no⟩
section
variable {X : Cx} {c : Cfg} {W : WX} {k i j m : Nat} {x y n : Str} {body : List Stmt} {np pos pos' py pe2 sp : Pos} {f : Sx} {cv : Value}
theorem Ctx.tr {X : Cx} {c : Cfg} {W W' : WX} {k : Nat} (h : Ctx X c W k) (pn : List (Addr × Obj)) (xe : Value → Shared → Prop) (tk : Takes (X.tr pn xe) W') : Ctx (X.tr pn xe) c W' k := ⟨h.hP, h.hw, h.hK, h.calm, h.nd, h.room, tk, h.bl⟩
theorem ds_try (i j : Nat) (h : Ctx X c W k) (hx : ∀ k, k < 9 → PySem.W.exmOne c.K (.ref (c.CA k)) cv = some true) (hm : X.mg x = some cv)
    (hb : ∀ (W : WX) (pn : List (Addr × Obj)) (xe : Value → Shared → Prop), Ctx (X.tr pn xe) c W k → PassesOwn (model X.prog X.w) X.A X.env xe → PSs (X.tr pn xe) body (tS c W f))
    (hs : X.stack = X.env :: X.outer := by rfl) (hf : X.env.frame = some X.env.locals := by rfl) (hex : X.ex = [] := by rfl) (hi : X.N[i]? = some n := by rfl) (hln : X.env.kindOf n = some .local := by rfl) (hj : X.N[j]? = some y := by rfl) (hlj : X.env.kindOf y = some .local := by rfl) (hij : i ≠ j := by decide)
    (hg : Gl X x := by rfl) (hdx : (x == ("__debug__" : Str)) = false := by decide) (hdb : (n == ("__debug__" : Str)) = false := by decide) (hcd : (n == ("__classdict__" : Str)) = false := by decide) (hsw : swapsWith (.Name n pe2) (some (.Name y py)) sp.line X.env = pure false := by rfl) (hn : X.N.length = m := by rfl) :
    PS X (.Try body [.ExceptHandler (some (.Name x np)) (some n) [.Assign [.Name y py] (.Name n pe2) sp] pos'] [] [] pos) (tS c W (sTry m j f)) := by
  refine (ps_try_keep (c := c) h.hP h.hw hs hf hex h.nd hi hln hj hlj ⟨hg, hdx, .inl hm⟩ h.tk hdb hcd hsw (fun W pn xe tk hp => hb W pn xe (h.tr pn xe tk) hp)).imp fun D σ H ⟨e, L, T, G, ρ, S, p⟩ => ⟨e, L, T, G, ρ, S, ?_⟩
  unfold sTry at p
  cases hr : f ρ T with
  | bad => rw [hr] at p; exact p
  | ok fl T' => rw [hr] at p; cases fl <;> exact p
  | exn q T' =>
    rw [hr] at p
    dsimp only at p
    by_cases lt : q < 9
    · rw [if_pos lt] at p
      intro L' G' H' σ' ρ' l1 g1 S'
      refine ⟨true, by rw [h.hK]; exact hx q lt, fun _ => ⟨q, rfl, rfl, fun len a na => ?_⟩, fun z => by cases z⟩
      have hli : i < X.N.length := (List.getElem?_eq_some_iff.mp hi).1
      have hlj : j < X.N.length := (List.getElem?_eq_some_iff.mp hj).1
      have gn := S'.gnone na
      have S1 := S'.new na (excObj c q a)
      have S2 := S1.blank (((σ'.set i (some (.ref a))).set j (some (.ref a))).set i none) (n := m) (by simp only [List.length_set]; rw [len, hn])
      have S3 := S2.relabel (i := j) (v := .ref a) (d := .exc q) (by
        rw [List.getElem?_set_ne hij, List.getElem?_set_self (by rw [List.length_set, len]; exact hlj)]) (.exc upd_same)
      exact p L' _ _ _ l1 (g1.trans (same_upd gn)) S3
    · rw [if_neg lt] at p; exact False.elim p
end
end WW
set_option maxHeartbeats 2000000
namespace WW
open PySem PySem.Spec PyProof.Rows L2
def exB (K : PySem.W.Frag) (D : Addr) : Bool := (PySem.W.findIn K (.ref D) "__getattribute__" == some (some (.builtin "BaseException.__getattribute__"))) && ((PySem.W.findIn K (.ref D) "__getattr__" == some none) && ((PySem.W.subIn K (.ref D) (.type "BaseException") == some true) &&
  (PySem.W.hasDictIn K D && ((PySem.W.findIn K (.ref D) "__class__" == some (some (.builtin "object.__class__"))) && ((PySem.W.specialIn K (.builtin "object.__class__") "__get__" == some (some (.builtin "getset_descriptor.__get__"))) && ((PySem.W.takesIn K (.builtin "object.__class__") == some true) && (PySem.W.mroIn K D (.type "object") == some true)))))))
theorem exB_ok {K : PySem.W.Frag} {D : Addr} (h : exB K D = true) : ExcC K D := by
  unfold exB at h
  simp only [Bool.and_eq_true, beq_iff_eq] at h
  obtain ⟨h1, h2, h3, h4, h5, h6, h7, h8⟩ := h
  exact ⟨h1, h2, h3, h4, h5, h6, h7, h8⟩
def xsub (k t : Nat) : Bool := decide (k = t) || (decide (t = 0) || decide (t = 9))
def xval (ca : Nat → Addr) (t : Nat) : Value := if t = 9 then .type "ValueError" else .ref (ca t)
def xfB (ca : PySem.W.Frag → Nat → Addr) (K : PySem.W.Frag) : Bool := (List.range 9).all fun k => exB K (ca K k) && ((PySem.W.exmOne K (.ref (ca K k)) (.ref (ca K 0)) == some true) && (List.range 10).all fun t => PySem.W.kitOne K (.ref (ca K k)) (xval (ca K) t) == some (xsub k t))
structure XF (c : Cfg) : Prop where
  ec : ∀ k, k < 9 → ExcC c.K (c.CA k)
  em : ∀ k, k < 9 → PySem.W.exmOne c.K (.ref (c.CA k)) (.ref (c.CA 0)) = some true
  ki : ∀ k t, k < 9 → t < 10 → PySem.W.kitOne c.K (.ref (c.CA k)) (xval c.CA t) = some (xsub k t)
theorem xfB_ok {c : Cfg} {ca : PySem.W.Frag → Nat → Addr} (h : xfB ca c.K = true) (hc : c.CA = ca c.K) : XF c := by
  unfold xfB at h
  simp only [List.all_eq_true, Bool.and_eq_true, beq_iff_eq, List.mem_range] at h
  rw [← hc] at h
  exact ⟨fun k hk => exB_ok (h k hk).1, fun k hk => (h k hk).2.1, fun k t hk ht => (h k hk).2.2 t ht⟩
def isxM (t : Nat) : D → M D
  | .exc k => if k < 9 then M.ret (.bl (xsub k t)) else M.fail
  | _ => M.fail
def rIsY (c : Cfg) : List V → Hp → VK → Prop := fun xs H Q => ∃ (a : Addr) (k : Nat) (t : V) (tv : Value) (b : Bool), xs = [.ref a, t] ∧ Rd H a (excObj c k a) ∧ ExcC c.K (c.CA k) ∧ (∀ u, RelV t u → u = tv) ∧ PySem.W.kitOne c.K (.ref (c.CA k)) tv = some b ∧ Q (.bl b) H
theorem call_isY {X : Cx} {c : Cfg} (hK : X.K = c.K) : CallR X (.builtin "isinstance") (rIsY c) := by
  intro pins s σ H xs us Q I r h
  obtain ⟨a, k, t, tv, b, rfl, hH, C, hcv, e, q⟩ := h
  rw [← hK] at C e
  cases r with
  | cons rx rr =>
    cases rr with
    | cons rt rr =>
      cases rr
      cases rx
      have ec := hcv _ rt
      subst ec
      have there : ∃ oe vs, s.heap.get? a = some oe ∧ oe.cls = .ref (c.CA k) ∧ oe.dict = none ∧ oe.data = .fields vs := by
        rcases hH with hH | ⟨ob, hH⟩
        · exact (I.hok a _ hH).1
        · exact (I.hok a _ hH).2.1
      obtain ⟨oe, vs, hget, hcls, hdict, hv⟩ := there
      have J : PySem.W.InstAt s.heap a oe (c.CA k) none := by
        obtain ⟨oc, od, oda, osl⟩ := oe
        dsimp only at hcls hdict hv
        subst hcls hdict hv
        exact ⟨hget, rfl, rfl, trivial⟩
      exact PySem.W.kia_one (PySem.W.handS_kitx_exc C.hg C.hk C.hs C.hd C.ha C.hn C.ht C.hm) I.kIn J e (fun z => nomatch z) fun tk => ⟨.bl b, H, I.kept (t' := tk) fun _ _ z => z, rfl, q⟩
section
variable {X : Cx} {c : Cfg} {W : WX} {k t : Nat} {a : Expr} {fa : Ex} {pos p p2 : Pos} {x : Str}
theorem isx_end {tv : V} (x0 : XF c) (ht : t < 10) (hu : ∀ u, RelV tv u → u = xval c.CA t) {σ : L2.St} {H : Hp} {Q : VK} (q : tD c W (d1 (isxM t) fa) σ H Q) : tD c W fa σ H fun v H1 => rIsY c [v, tv] H1 Q := by
  refine (tD_one q).mono fun v H1 q1 => ?_
  obtain ⟨e, L, T, G, ρ, d, S, r, p⟩ := q1
  cases r with
  | @exc a k h1 =>
    simp only [isxM] at p
    by_cases z : k < 9
    · rw [if_pos z] at p
      have hH : Rd H1 a (excObj c k a) := by
        rcases S.sub _ _ h1 with y | ⟨_, ob, y⟩
        · exact .inl y
        · exact .inr ⟨ob, y⟩
      exact ⟨a, k, tv, _, xsub k t, rfl, hH, x0.ec k z, hu, x0.ki k t z ht, p.val S (.bl _)⟩
    · rw [if_neg z] at p; exact p.bad
  | _ => exact p.bad
/-- isinstance(e, X), X a class of the module -/
theorem de_isx (h : Ctx X c W k) (x0 : XF c) (hm : X.mg x = some (.ref (c.CA t))) (ha : PE X a (tD c W fa)) (ht : t < 9 := by decide) (hg : Gl X "isinstance" := by rfl) (hg2 : Gl X x := by rfl) (hd : (x == ("__debug__" : Str)) = false := by decide) (ns : NS a := by intro _ _; rfl) :
    PE X (.Call (.Name "isinstance" p) [a, .Name x p2] [] pos) (tD c W (d1 (isxM t) fa)) := by
  refine (pe_callB (call_isY h.hK) hg h.bl.isi (by decide +kernel) (pa_cons ha (pa_cons (pe_glob (v := .ref (c.CA t)) hg2 hm rfl hd) pa_nil) (ns _ _)) (he := ns _ _)).imp fun σ H Q q => ?_
  exact isx_end x0 (Nat.lt_succ_of_lt ht) (fun u hu => by
    have e : u = .ref (c.CA t) := by cases hu; rfl
    rw [e, xval, if_neg (by omega)]) q
/-- isinstance(e, ValueError) -/
theorem de_isv (h : Ctx X c W k) (x0 : XF c) (ha : PE X a (tD c W fa)) (hg : Gl X "isinstance" := by rfl) (hg2 : Gl X "ValueError" := by rfl) (ns : NS a := by intro _ _; rfl) :
    PE X (.Call (.Name "isinstance" p) [a, .Name "ValueError" p2] [] pos) (tD c W (d1 (isxM 9) fa)) := by
  refine (pe_callB (call_isY h.hK) hg h.bl.isi (by decide +kernel) (pa_cons ha (pa_cons (pe_bltn hg2 h.bl.ve (by decide +kernel : bootBuiltins "ValueError" = some (.type "ValueError")) (v := .ty "ValueError") rfl (by decide) (by decide)) pa_nil) (ns _ _)) (he := ns _ _)).imp fun σ H Q q => ?_
  exact isx_end x0 (by decide) (fun u hu => by
    have e : u = .type "ValueError" := by cases hu; rfl
    rw [e]; rfl) q
end
abbrev Ck := PySem.W.Frag → Bool
def obsZ (fa : List He.Fa) (ck : List Ck) (fn : List He.DefD) (K : PySem.W.Frag) : AlY := (ck.all fun q => q K, He.obsD fa fn K)
def obsZG (n : Nat) (fa : List He.Fa) (ck : List Ck) (fn : List He.DefD) (g : Addr → Option Obj) : AlY := obsZ fa ck fn (He.frG g (He.asD g n))
def SaysZ (fa : List He.Fa) (ck : List Ck) (fn : List He.DefD) (K : PySem.W.Frag) : Prop := obsZ fa ck fn K = valY fn
def hookZ (n : Nat) (fa : List He.Fa) (ck : List Ck) (fn : List He.DefD) : PySem.W.Hook where
  α := AlY
  obs := fun s => obsZG n fa ck fn s.heap.get?
  val := fun _ => valY fn
  says := fun _ h => ∃ K : PySem.W.Frag, K.In h ∧ SaysZ fa ck fn K
  of := fun _ _ e => ⟨_, He.frG_in, e⟩
  keeps := fun _ _ _ ⟨K, k1, q⟩ kp => ⟨K, PySem.W.Frag.In.keeps k1 kp, q⟩
theorem obsZG_eq {n : Nat} {fa : List He.Fa} {ck : List Ck} {fn : List He.DefD} {g : Addr → Option Obj} {s : Shared} (h : ∀ a, g a = s.heap.get? a) : obsZG n fa ck fn g = (hookZ n fa ck fn).obs s := by
  have e : g = s.heap.get? := funext h
  rw [e] <;> rfl
section
variable {fa : List He.Fa} {ck : List Ck} {fn : List He.DefD} {K : PySem.W.Frag}
theorem SaysZ.d (h : SaysZ fa ck fn K) : He.SaysD fa fn K := congrArg (fun z : AlY => z.2) h
theorem SaysZ.c (h : SaysZ fa ck fn K) (i : Nat) {q : Ck} (hi : ck[i]? = some q := by rfl) : q K = true := by
  have c1 : (ck.all fun q => q K) = true := congrArg (fun z : AlY => z.1) h
  exact List.all_eq_true.mp c1 q (List.mem_of_getElem? hi)
end
end WW
set_option maxHeartbeats 2000000
namespace WW
open PySem PySem.Spec PyProof.Rows L2
def rCountD (K : PySem.W.Frag) : V → List V → Hp → VK → Prop := fun x xs H Q => ∃ (a : Addr) (y : V) (d : PyData) (ds : List PyData), x = V.ref a ∧ xs = [y] ∧ Dp K H (V.ref a) (.list ds) ∧ Dp K H y d ∧
  SeqAt.shaped (.list ds) = true ∧ SeqAt.shaped d = true ∧ Q (.int (ds.countP fun z => PyData.eqv z d : Nat)) H
theorem mt_countD {X : Cx} (hu : X.A.units + 65 < cLine) : MtR X "list.count" (rCountD X.K) := by
  intro pins s σ H x xs v us Q I rx rxs h
  obtain ⟨a, y, d, ds, rfl, rfl, hl, hy, sl, sd, q⟩ := h
  cases rx
  cases rxs with
  | cons ry rt =>
    rename_i uy ut
    cases rt
    obtain ⟨bs, r1⟩ := Dp.reads I d y uy hy ry
    have hxs : PyData.canLayAll0 ds = true := SeqAt.canLay_of_shaped sl
    have hroom : X.A.units + 1 + min (PyData.depthAll ds) d.depth < cLine := room_in_shaped sd hu
    cases hl with
    | lst hs ha =>
      obtain ⟨its, rv, ⟨⟨cls, dd, data, sls⟩, n, ho, hc, hdn, hdt⟩, hlen⟩ := I.list hs
      simp only at hc hdt
      subst hc hdt
      obtain ⟨as, h4⟩ := Dp.readsAll I ds _ its ha rv
      have hmap : its.map (SeqAt.readOf s.heap) = ds := SeqAt.readsAll_map ds its as hxs h4
      refine call_meets PySem.F.slot_list_count ⟨_, ho, rfl⟩ PySem.F.entry_list_count (PySem.F.args_list_count_2 _ _)
        (SeqAt.list_countAt a its.toArray n dd sls uy (fun u => PyData.eqv (SeqAt.readOf s.heap u) d)) ⟨ho, SeqAt.items_eqAt (vs := its.toArray) (show ReadsAll s.heap its.toArray.toList ds as from h4) r1 hxs (SeqAt.canLay_of_shaped sd) hroom, ?_⟩
      have e1 : its.toArray.toList.countP (fun u => PyData.eqv (SeqAt.readOf s.heap u) d) = ds.countP fun z => PyData.eqv z d := by
        rw [← hmap, List.countP_map]; rfl
      refine ⟨.int (ds.countP fun z => PyData.eqv z d : Nat), H, I.tok _, ⟨s.toks, ?_⟩, q⟩
      show Value.int _ _ = Value.int _ _
      rw [e1]
def cntM (x y : D) : M D := match x with
  | .lst ys => if okD y 64 && okD (.lst ys) 64 then M.ret (.int (ys.countP fun z => eqB z y : Nat)) else M.fail
  | _ => M.fail
def idxM (x y : D) : M D := match x with
  | .lst ys => if okD y 64 && okD (.lst ys) 64 then (match ys.findIdx? fun z => eqB z y with | some j => M.ret (.int (j : Nat)) | none => M.fail) else M.fail
  | _ => M.fail
def isLst : D → Bool
  | .lst _ => true
  | _ => false
def dMt1 (F : D → D → M D) (f g : Ex) : Ex := fun ρ => f ρ >>= fun x => if isLst x = true then g ρ >>= fun y => F x y else M.fail
theorem count_toPy {x : D} (hx : okD x 64 = true) : ∀ {ys : List D} {n : Nat}, okDs ys n = true → ((toPys ys).countP fun z => PyData.eqv z (toPy x)) = ys.countP fun z => eqB z x
  | [], _, _ => rfl
  | y :: ys, n, h => by
    simp only [okDs, Bool.and_eq_true] at h
    simp only [toPys, List.countP_cons]
    rw [count_toPy hx h.2, eqv_toPy y x n 64 h.1 hx]
section
variable {X : Cx} {c : Cfg} {W : WX} {k : Nat} {a b : Expr} {fa fb : Ex} {apos cpos : Pos} {name : Str} {id : String} {r : V → List V → Hp → VK → Prop} {F : D → D → M D}
theorem mt1_end (ad : ∀ (e : Gh) (L : List (List Addr)) (T : List Cell) (G H : Hp) (σ : L2.St) (ρ : En) (x y : V) (d b : D) (Q : VK), Sta c e L T G H σ ρ → Rep c L G x d → Rep c L G y b → PostG c e W σ ρ (Rep c) L G (F d b T) Q → r x [y] H Q)
    {σ : L2.St} {H : Hp} {Q : VK} (q : tD c W (dMt1 F fa fb) σ H Q) : tBM c.K "list" r (tD c W fa) (tL c W (dArgs [fb])) σ H Q := by
  refine (tG.one (R1 := Rep c) (f := fa) (k := fun x ρ => if isLst x = true then fb ρ >>= fun y => F x y else M.fail) q).mono fun v H1 q1 => ?_
  obtain ⟨e, L, T, G, ρ, d, S, rv, p⟩ := q1
  cases rv with
  | @lst ad0 vs ds h1 h2 h3 =>
    simp only [isLst, if_true] at p
    refine ⟨.inl ⟨rfl, _, .of (S.subS.lst h1)⟩, e, L, T, G, ρ, S, ?_⟩
    have p' : PostG c e W σ ρ (Rep c) L G ((dArgs [fb] ρ >>= fun ys => match ys with | [y] => F (.lst ds) y | _ => M.fail) T) Q := by
      have e1 : (dArgs [fb] ρ >>= fun ys => match ys with | [y] => F (.lst ds) y | _ => M.fail) = (fb ρ >>= fun y => F (.lst ds) y) := by
        show ((fb ρ >>= fun x => M.ret [] >>= fun xs => M.ret (x :: xs)) >>= _) = _
        rw [bind_assoc']
        rfl
      rw [e1]; exact p
    refine (PostG.then (R1 := RepL c) p').mono fun us H2 ⟨L1, T1, G1, ys, l1, g1, S1, rys, _, p1⟩ => ?_
    cases rys with
    | nil => exact p1.bad
    | cons ry rt =>
      cases rt with
      | cons _ _ => exact p1.bad
      | nil => exact ad e L1 T1 G1 H2 σ ρ _ _ _ _ Q S1 (.lst (g1 _ _ h1) (h2.up l1 g1) h3) ry p1
  | _ => exact p.bad
theorem ad_count (e : Gh) (L : List (List Addr)) (T : List Cell) (G H : Hp) (σ : L2.St) (ρ : En) (x y : V) (d b : D) (Q : VK) (S : Sta c e L T G H σ ρ) (rx : Rep c L G x d) (ry : Rep c L G y b) (p : PostG c e W σ ρ (Rep c) L G (cntM d b T) Q) : rCountD c.K x [y] H Q := by
  cases d with
  | lst ys =>
    simp only [cntM] at p
    by_cases z : (okD b 64 && okD (.lst ys) 64) = true
    · rw [if_pos z] at p
      obtain ⟨z1, z2⟩ := and_split z
      obtain ⟨p1, p2⟩ := rep_shaped S.subS ry z1
      obtain ⟨q1, q2⟩ := rep_shaped S.subS rx z2
      have rx' := rx
      cases rx with
      | lst h1 h2 h3 =>
        refine ⟨_, y, toPy b, toPys ys, rfl, rfl, q1, p1, q2, p2, ?_⟩
        rw [count_toPy z1 (show okDs ys 63 = true from z2)]
        exact p.val S (.int _)
    · rw [if_neg z] at p; exact p.bad
  | _ => exact p.bad
theorem findIdx_toPy {x : D} (hx : okD x 64 = true) : ∀ {ys : List D} {n j : Nat}, okDs ys n = true → (ys.findIdx? fun z => eqB z x) = some j → ∃ z, (toPys ys)[j]? = some z ∧ PyData.eqv z (toPy x) = true ∧ ∀ (m : Nat) (z' : PyData), m < j → (toPys ys)[m]? = some z' → PyData.eqv z' (toPy x) = false
  | [], _, _, _, h => by simp at h
  | y :: ys, n, j, h, hj => by
    simp only [okDs, Bool.and_eq_true] at h
    rw [List.findIdx?_cons] at hj
    have e1 := eqv_toPy y x n 64 h.1 hx
    cases q : eqB y x with
    | true =>
      rw [q] at hj
      simp only [if_true] at hj
      cases hj
      exact ⟨toPy y, rfl, by rw [e1, q], fun m z' hm => absurd hm (Nat.not_lt_zero m)⟩
    | false =>
      rw [q] at hj
      simp only [Bool.false_eq_true, if_false] at hj
      cases q2 : ys.findIdx? fun z => eqB z x with
      | none => rw [q2] at hj; cases hj
      | some i =>
        rw [q2] at hj
        cases hj
        obtain ⟨z, h1, h2, h3⟩ := findIdx_toPy hx h.2 q2
        refine ⟨z, h1, h2, fun m z' hm hz => ?_⟩
        cases m with
        | zero =>
          have e2 : toPy y = z' := by simpa [toPys] using hz
          rw [← e2, e1, q]
        | succ m => exact h3 m z' (Nat.lt_of_succ_lt_succ hm) (by simpa [toPys] using hz)
theorem ad_index (e : Gh) (L : List (List Addr)) (T : List Cell) (G H : Hp) (σ : L2.St) (ρ : En) (x y : V) (d b : D) (Q : VK) (S : Sta c e L T G H σ ρ) (rx : Rep c L G x d) (ry : Rep c L G y b) (p : PostG c e W σ ρ (Rep c) L G (idxM d b T) Q) : rIndexD c.K x [y] H Q := by
  cases d with
  | lst ys =>
    simp only [idxM] at p
    by_cases z : (okD b 64 && okD (.lst ys) 64) = true
    · rw [if_pos z] at p
      obtain ⟨z1, z2⟩ := and_split z
      obtain ⟨p1, p2⟩ := rep_shaped S.subS ry z1
      obtain ⟨q1, q2⟩ := rep_shaped S.subS rx z2
      cases rx with
      | lst h1 h2 h3 =>
        cases q : ys.findIdx? fun z => eqB z b with
        | none => rw [q] at p; exact p.bad
        | some j =>
          rw [q] at p
          obtain ⟨z, f1, f2, f3⟩ := findIdx_toPy z1 (show okDs ys 63 = true from z2) q
          exact ⟨_, y, toPy b, toPys ys, j, z, rfl, rfl, q1, p1, q2, p2, f1, f2, f3, p.val S (.int _)⟩
    · rw [if_neg z] at p; exact p.bad
  | _ => exact p.bad
theorem de_count (h : Ctx X c W k) (ha : PE X a (tD c W fa)) (hb : PE X b (tD c W fb)) (ns : NS b := by intro _ _; rfl)
    (hbase : attributeBase a "count" X.env (eval a X.env) = eval a X.env := by rfl)
    (hfew : ((backTo cpos (starEach [b] X.env)).all (fun x => !x.1) && (backToKw cpos (keywordEach [] X.env)).all (fun x => x.1.isSome)
      && decide (([b] : List Expr).length + ([] : List Keyword).length + (if ([] : List Keyword).isEmpty then 0 else 1) < 30)) = true := by rfl)
    (hline : (apos.endLine == cpos.line) = true := by rfl) (hp : (backTo cpos (starEach [] X.env)).any (·.1) = false := by rfl) : PE X (.Call (.Attribute a "count" apos) [b] [] cpos) (tD c W (dMt1 cntM fa fb)) :=
  (pe_bm PySem.F.plainAttrs_list PySem.F.slot_list_count PySem.F.type_list_count (mt_countD h.units) ha (da_cons hb da_nil (ns _ _)) hbase hfew hline (ns _ _) hp).imp fun σ H Q q => h.hK ▸ mt1_end ad_count q
theorem de_index (h : Ctx X c W k) (ha : PE X a (tD c W fa)) (hb : PE X b (tD c W fb)) (ns : NS b := by intro _ _; rfl)
    (hbase : attributeBase a "index" X.env (eval a X.env) = eval a X.env := by rfl)
    (hfew : ((backTo cpos (starEach [b] X.env)).all (fun x => !x.1) && (backToKw cpos (keywordEach [] X.env)).all (fun x => x.1.isSome)
      && decide (([b] : List Expr).length + ([] : List Keyword).length + (if ([] : List Keyword).isEmpty then 0 else 1) < 30)) = true := by rfl)
    (hline : (apos.endLine == cpos.line) = true := by rfl) (hp : (backTo cpos (starEach [] X.env)).any (·.1) = false := by rfl) : PE X (.Call (.Attribute a "index" apos) [b] [] cpos) (tD c W (dMt1 idxM fa fb)) :=
  (pe_bm PySem.F.plainAttrs_list PySem.F.slot_list_index PySem.F.type_list_index (mt_indexD h.units) ha (da_cons hb da_nil (ns _ _)) hbase hfew hline (ns _ _) hp).imp fun σ H Q q => h.hK ▸ mt1_end ad_index q
end
end WW
set_option maxHeartbeats 2000000
namespace WW
open PySem PySem.Spec PyProof.Rows L2
theorem ndict_is {X : Cx} {pins : List (Addr × Obj)} {σ : L2.St} {H : Hp} {s : Shared} {a : Addr} {es : List Ent} (I : Inv X pins σ H s) (e : NDict X.prog X.w H a es) :
    s.TypeIs (.ref a) "dict" ∧ (∀ b, Value.ref a = .ref b → ∃ ob, s.heap.get? b = some ob ∧ ob.dict = none) := by
  have z : ∃ o, s.heap.get? a = some o ∧ o.ExactDict := by
    cases e with
    | full e =>
      obtain ⟨⟨_, _, _, _, xs, pr, o, ds, ep, ho, hx, _⟩, _⟩ := I.hok a _ e
      exact ⟨o, ho, hx⟩
    | none e =>
      obtain ⟨_, _, vs, kv, o, ds, ep, ho, hx, _⟩ := I.hok a _ e
      exact ⟨o, ho, hx⟩
  obtain ⟨o, ho, hx⟩ := z
  refine ⟨⟨o, ho, hx.1⟩, fun b e => ?_⟩
  cases e
  exact ⟨o, ho, hx.2.1⟩
def tDGetN (P : Program) (w : World) (K : PySem.W.Frag) (td ty tx : TE) : TE := fun σ H Q => td σ H fun x H1 => ∃ a, x = .ref a ∧ (∃ es, NDict P w H1 a es) ∧ ty σ H1 fun y H2 => tx σ H2 fun z H3 => ∃ es b k, NDict P w H3 a es ∧ KeysAt K H3 es ∧ NKey K H3 y b k ∧ Q ((nGet es k).getD z) H3
section
variable {X : Cx} {o e f : Expr} {apos cpos : Pos} {td ty tx : TE}
theorem pe_dgetN (hu : X.A.units + 9 < cLine) (ho : PE X o td) (he : PE X e ty) (hf : PE X f tx) (m : M2 X o "get" apos e f cpos) : PE X (.Call (.Attribute o "get" apos) [e, f] [] cpos) (tDGetN X.prog X.w X.K td ty tx) := by
  refine ⟨fun pins s σ H Q I h => ?_⟩
  refine wpAny_Call_method m.base m.few m.line PySem.F.plainAttrs_dict PySem.F.slot_dict_get PySem.F.type_dict_get (thn (ho.run pins s σ H _ I h) fun u s1 ⟨x, H1, I1, rx, a, ex, ⟨es, d⟩, q1⟩ => ?_)
  subst ex
  obtain rfl : u = Value.ref a := rx
  obtain ⟨t1, t2⟩ := ndict_is I1 d
  refine ⟨t1, t2, ?_⟩
  rw [m.trees]
  refine Calls.callWith_builtin rfl (Calls.evalArgs_plain (Calls.spliced_cons (thn (he.run pins s1 σ H1 _ I1 q1) fun iv s2 ⟨y, H2, I2, ry, q2⟩ =>
    Calls.spliced_cons (thn (hf.run pins s2 σ H2 _ I2 q2) fun fv s3 ⟨z, H3, I3, rz, es3, b, k, d3, hk, nk, q3⟩ => Calls.spliced_nil ?_))))
  have ey := nk.v
  subst ey
  cases (show iv = Value.ref b from ry)
  obtain ⟨xs, pr, dd, h1, h2, h3, h4, _⟩ := ndict_at I3 d3 hk
  refine call_meetsIn PySem.F.slot_dict_get dd.typeIs PySem.F.entry_dict_get (PySem.F.args_dict_get_3 _ _ _) (meetsH_dict_get_default (nestedKind X.prog X.w) a b h1 fv) ⟨n_room hu, k, xs, nk.is I3, dd, ⟨_, H3, I3.tok _, ?_, q3⟩⟩
  exact (nget_rel (k := k) pr).getD rz
end
def ownD (ρ : En) (i : Nat) : Option (List D × List D) := match ρ[i]? with
  | some (some (.od ks vs)) => some (ks, vs)
  | _ => none
theorem ownD_ok {ρ : En} {i : Nat} {ks vs : List D} (h : ownD ρ i = some (ks, vs)) : ρ[i]? = some (some (.od ks vs)) := by
  unfold ownD at h
  rcases q : ρ[i]? with _ | _ | sv
  · rw [q] at h; cases h
  · rw [q] at h; cases h
  · rw [q] at h
    cases sv with
    | od a b => cases h; rfl
    | d x => cases h
    | ol x => cases h
def getDD : List D → List D → D → D → D
  | ks, vs, k, x => (dgetD ks vs k).getD x
def tupD (ks : List D) : Bool := ks.all isTupKey
def dGetO (i : Nat) (f g : Ex) : Ex := fun ρ => match ownD ρ i with
  | some (ks, vs) => if tupD ks = true then f ρ >>= fun k => g ρ >>= fun x => if isTupKey k = true then M.ret ((dgetD ks vs k).getD x) else M.fail else M.fail
  | none => M.fail
theorem dn_none {c : Cfg} {L : List (List Addr)} {G : Hp} {es : List Ent} {ks vs : List D} {k : NestedKey} {d : D} (h1 : RepL c L G (es.map fun e => V.ref e.2.1) ks) (hk : ks.map toNK = es.map fun e => some e.1) (h2 : RepL c L G (es.map (·.2.2)) vs) (hd : toNK d = some k) :
    (dgetD ks vs d = none ∧ nGet es k = none) ∨ ∃ y v, dgetD ks vs d = some y ∧ nGet es k = some v ∧ Rep c L G v y := by
  induction es generalizing ks vs with
  | nil => cases h1; cases h2; exact .inl ⟨rfl, rfl⟩
  | cons p es ih =>
    cases h1 with
    | @cons _ _ d' ds r1 t1 =>
      cases h2 with
      | cons r2 t2 =>
        rw [List.map_cons, List.map_cons] at hk
        injection hk with hk1 hk2
        have e := eqB_nk d' d p.1 k hk1 hd
        have gp : p.1 = k → nGet (p :: es) k = some p.2.2 := fun h => by simp [nGet, List.find?_cons, h]
        have gn : ¬ p.1 = k → nGet (p :: es) k = nGet es k := fun h => by simp [nGet, List.find?_cons, h]
        by_cases h : p.1 = k
        · rw [decide_eq_true h] at e
          refine .inr ⟨_, p.2.2, ?_, gp h, r2⟩
          rw [dgetD, if_pos e]
        · rw [decide_eq_false h] at e
          rw [dgetD, if_neg (by rw [e]; simp), gn h]
          exact ih t1 hk2 t2
/-- a dict's content by tuple keys -/
theorem drep_nd {c : Cfg} {L : List (List Addr)} {G H : Hp} {p : Addr} {o : HO} {ks vs : List D} (h : DRep c L G p o ks vs) (hp : H p = some o) (hk : tupD ks = true) : ∃ es, NDict c.P c.w H p es ∧ RepL c L G (es.map fun e => V.ref e.2.1) ks ∧ ks.map toNK = es.map (fun e => some e.1) ∧ RepL c L G (es.map (·.2.2)) vs := by
  rcases h with ⟨kvs, rfl, h2, h3, h5⟩ | ⟨es, rfl, h0, h2, h3, h4, h5⟩
  · cases kvs with
    | nil => cases h2; cases h3; exact ⟨[], .none hp, .nil, rfl, .nil⟩
    | cons p0 kvs =>
      cases h2 with
      | @cons _ _ d' ds' r1 t1 =>
        have := (List.all_eq_true.mp hk) d' List.mem_cons_self
        obtain ⟨_, _, e3, _⟩ := isTup_key this
        subst e3
        obtain ⟨k0, v0⟩ := p0
        cases k0 <;> cases r1
  · exact ⟨es, .full hp, h2, h3, h4⟩
section
variable {X : Cx} {c : Cfg} {W : WX} {k : Nat} {a b : Expr} {fa fb : Ex} {pos' apos cpos : Pos} {x : Str}
theorem de_getO (i : Nat) (h : Ctx X c W k) (ha : PE X a (tD c W fa)) (hb : PE X b (tD c W fb)) (hi : X.N[i]? = some x := by rfl) (hv : Vis X.env.scope x := by first | exact Or.inl rfl | exact Or.inr (Or.inl rfl) | exact Or.inr (Or.inr rfl)) (hd : (x == ("__debug__" : Str)) = false := by decide) (hcd : (x == ("__classdict__" : Str)) = false := by decide)
    (m : M2 X (.Name x pos') "get" apos a b cpos := by exact ⟨rfl, rfl, rfl, rfl⟩) : PE X (.Call (.Attribute (.Name x pos') "get" apos) [a, b] [] cpos) (tD c W (dGetO i fa fb)) := by
  refine (pe_dgetN h.u9 (pe_var hi hv hd hcd) ha hb m).imp fun σ H Q ⟨e, L, T, G, ρ, S, p⟩ => ?_
  cases hx : ownD ρ i with
  | none => simp only [dGetO, hx] at p; exact p.bad
  | some q =>
    obtain ⟨ks, vs⟩ := q
    simp only [dGetO, hx] at p
    by_cases z : tupD ks = true
    · rw [if_pos z] at p
      have hρ := ownD_ok hx
      have at_ : ∀ {L : List (List Addr)} {T : List Cell} {G H : Hp}, Sta c e L T G H σ ρ → ∃ q es, σ[i]? = some (some (.ref q)) ∧ NDict c.P c.w H q es ∧ RepL c L G (es.map fun e => V.ref e.2.1) ks ∧ ks.map toNK = es.map (fun e => some e.1) ∧ RepL c L G (es.map (·.2.2)) vs := fun {L T G H} S => by
        obtain ⟨q, o, h1, h2, _, _, _, alt⟩ := slot_own S hρ trivial
        rcases alt with ⟨_, _, e1, _⟩ | ⟨ks', vs', e1, dr⟩
        · cases e1
        · cases e1
          obtain ⟨es, h3⟩ := drep_nd dr h2 z
          exact ⟨q, es, h1, h3⟩
      obtain ⟨q0, es0, hσ, nd0, _⟩ := at_ S
      refine ⟨.ref q0, hσ, q0, rfl, ⟨es0, by rw [h.hP, h.hw]; exact nd0⟩, e, L, T, G, ρ, S, (PostG.then (R1 := Rep c) p).mono fun y H2 ⟨L1, T1, G1, kk, l1, g1, S1, ry, _, p1⟩ => ⟨e, L1, T1, G1, ρ, S1, (PostG.then (R1 := Rep c) p1).mono fun u H3 ⟨L2, T2, G2, xx, l2, g2, S2, ru, _, p2⟩ => ?_⟩⟩
      by_cases zk : isTupKey kk = true
      · rw [if_pos zk] at p2
        obtain ⟨q1, es, hσ1, nd, r1, r2, r3⟩ := at_ S2
        rw [hσ] at hσ1
        cases hσ1
        obtain ⟨ds, nk, e1, e2, dp⟩ := isTup_key zk
        have ry' := ry.up l2 g2
        obtain ⟨bb, nk'⟩ := tup_nkey S2.subS ry' ⟨ds, e1⟩ e2 dp
        rw [h.hK, h.hP, h.hw]
        refine ⟨es, bb, nk, nd, keys_at S2.subS r1 r2, nk', ?_⟩
        rcases dn_none r1 r2 r3 e2 with ⟨h1, h2⟩ | ⟨y, v, h1, h2, h3⟩
        · rw [h1] at p2
          rw [h2]
          exact p2.val S2 ru
        · rw [h1] at p2
          rw [h2]
          exact p2.val S2 h3
      · rw [if_neg zk] at p2; exact p2.bad
    · rw [if_neg z] at p; exact p.bad
end
end WW
set_option maxHeartbeats 2000000
namespace WZ
open PySem
section
variable {prog : Program} {w : World} {A : Around} {E : Value → Shared → Prop} {s : Shared}
theorem item_held {z TI TO T i1 i2 l1 l2 : Addr} {f : Bool} {oT : Obj} {k1 k2 : Nat} {xs ys : Array Value} {x y : Value} {Q : Value → Shared → Prop} (D : ZipApart z TI TO i1 i2 l1 l2) (hz : IsZipHeld s.heap z TI TO T f) (hT : s.heap.get? T = some oT)
    (hTI : IsPair s.heap TI (.ref i1) (.ref i2)) (h1 : s.heap.IsTupleIter i1 l1 k1) (h2 : s.heap.IsTupleIter i2 l2 k2) (hl1 : s.heap.IsTuple l1 xs) (hl2 : s.heap.IsTuple l2 ys) (hx : xs[k1]? = some x) (hy : ys[k2]? = some y)
    (hQ : ∀ h', IsZipHeld h' z TI TO T true → h'.IsTupleIter i1 l1 (k1 + 1) → h'.IsTupleIter i2 l2 (k2 + 1) → IsPair h' s.heap.objs.size x y → h'.objs.size = s.heap.objs.size + 1 →
      (∀ c o, c ≠ z → c ≠ i1 → c ≠ i2 → s.heap.get? c = some o → h'.get? c = some o) → Q (.ref s.heap.objs.size) { s with heap := h' }) :
    wpAny (model prog w) A (Builtin.«zip.__next__» ⟨[.ref z], []⟩) (fun fin s' => ∃ v, fin = .done (.ret v) ∧ Q v s') E s := by
  show wpAny _ _ (field (.ref z) 2 >>= _) _ _ _
  refine wpAny_bind (wpAny_field hz rfl (x := .bool false) rfl ?_)
  show wpAny _ _ (field (.ref z) 3 >>= _) _ _ _
  refine wpAny_bind (wpAny_field hz rfl (x := .ref TI) rfl (wpAny_bind (wpAny_seqItems hTI rfl ?_)))
  show wpAny _ _ (Builtin.SmallTypes.ownedTupleIsFree (.ref z) >>= _) _ _ _
  refine wpAny_bind (wpAny_tupleHeld_zip hz hT fun g1 z1 b1 => ?_)
  simp only [Bool.false_eq_true, if_false]
  refine wpAny_bind ?_
  rw [← Array.forIn_toList]
  simp only [List.forIn_cons, List.forIn_nil]
  refine wpAny_bind (wpAny_bind (wpAny_holding ?_))
  show wpAny _ _ (Builtin.SmallTypes.nextOf (.ref i1) >>= _) _ _ _
  refine wpAny_bind (RZ.nextOf_tuple_item (s := { s with heap := g1 }) (h1.extBut b1.extBut D.i1z) (hl1.extBut b1.extBut D.l1z) hx fun g2 j2 b2 => wpAny_pure (wpAny_pure ?_))
  refine wpAny_bind (wpAny_bind (wpAny_holding ?_))
  show wpAny _ _ (Builtin.SmallTypes.nextOf (.ref i2) >>= _) _ _ _
  refine wpAny_bind (RZ.nextOf_tuple_item (s := { s with heap := g2 }) ((h2.extBut b1.extBut D.i2z).extBut b2.extBut D.i12.symm) ((hl2.extBut b1.extBut D.l2z).extBut b2.extBut D.l2i1) hy fun g3 j3 b3 => wpAny_pure (wpAny_pure (wpAny_pure ?_)))
  show wpAny _ _ (newTuple [x, y] >>= _) _ _ _
  refine wpAny_bind (wpAny_newTuple ?_)
  have n3 : g3.objs.size = s.heap.objs.size := by rw [b3.1, b2.1, b1.1]
  have z3 : IsZipHeld g3 z TI TO T true := b3.extBut _ _ D.i2z.symm (b2.extBut _ _ D.i1z.symm z1)
  have up : ∀ c o, c ≠ z → c ≠ i1 → c ≠ i2 → s.heap.get? c = some o → g3.get? c = some o := fun c o c1 c2 c3 e => b3.extBut _ _ c3 (b2.extBut _ _ c2 (b1.extBut _ _ c1 e))
  refine wpAny_pure ⟨_, rfl, ?_⟩
  show Q (.ref g3.objs.size) _
  have p4 : IsPair (g3.push { cls := .type "tuple", data := .seq #[x, y] }) g3.objs.size x y := Heap.get?_push_size _ rfl
  have n4 : (g3.push { cls := .type "tuple", data := .seq #[x, y] }).objs.size = g3.objs.size + 1 := Heap.size_push ..
  rw [n3] at p4 n4 ⊢
  exact hQ _ (Heap.get?_push_of_some _ z3) ((j2.extBut b3.extBut D.i12).at fun o e => Heap.get?_push_of_some _ e) (j3.at fun o e => Heap.get?_push_of_some _ e) p4 n4 fun c o c1 c2 c3 e => Heap.get?_push_of_some _ (up c o c1 c2 c3 e)
theorem end_held {z TI TO T i1 i2 l1 l2 : Addr} {f : Bool} {oT : Obj} {k1 k2 : Nat} {xs ys : Array Value} {Q : Fin → Shared → Prop} (hh : A.handled = none) (D : ZipApart z TI TO i1 i2 l1 l2) (hz : IsZipHeld s.heap z TI TO T f) (hT : s.heap.get? T = some oT)
    (hTI : IsPair s.heap TI (.ref i1) (.ref i2)) (h1 : s.heap.IsTupleIter i1 l1 k1) (h2 : s.heap.IsTupleIter i2 l2 k2) (hl1 : s.heap.IsTuple l1 xs) (hl2 : s.heap.IsTuple l2 ys) (hend : xs[k1]? = none ∨ ys[k2]? = none)
    (hE : ∀ h' e, (∀ c o, c ≠ z → c ≠ i1 → c ≠ i2 → s.heap.get? c = some o → h'.get? c = some o) → (∃ o, h'.get? e = some o ∧ o.cls = .type "StopIteration") → E (.ref e) { s with heap := h' }) :
    wpAny (model prog w) A (Builtin.«zip.__next__» ⟨[.ref z], []⟩) Q E s := by
  show wpAny _ _ (field (.ref z) 2 >>= _) _ _ _
  refine wpAny_bind (wpAny_field hz rfl (x := .bool false) rfl ?_)
  show wpAny _ _ (field (.ref z) 3 >>= _) _ _ _
  refine wpAny_bind (wpAny_field hz rfl (x := .ref TI) rfl (wpAny_bind (wpAny_seqItems hTI rfl ?_)))
  show wpAny _ _ (Builtin.SmallTypes.ownedTupleIsFree (.ref z) >>= _) _ _ _
  refine wpAny_bind (wpAny_tupleHeld_zip hz hT fun g1 z1 b1 => ?_)
  simp only [Bool.false_eq_true, if_false]
  refine wpAny_bind ?_
  rw [← Array.forIn_toList]
  simp only [List.forIn_cons, List.forIn_nil]
  refine wpAny_bind (wpAny_bind (wpAny_holding ?_))
  show wpAny _ _ (Builtin.SmallTypes.nextOf (.ref i1) >>= _) _ _ _
  cases hx : xs[k1]? with
  | none => exact wpAny_bind (RZ.nextOf_tuple_end (s := { s with heap := g1 }) hh (h1.extBut b1.extBut D.i1z) (hl1.extBut b1.extBut D.l1z) hx fun g2 e b2 he => hE g2 e (fun c o c1 c2 _ x => b2 _ _ c2 (b1.extBut _ _ c1 x)) he)
  | some x =>
    have hy : ys[k2]? = none := hend.resolve_left fun q => by rw [hx] at q; cases q
    refine wpAny_bind (RZ.nextOf_tuple_item (s := { s with heap := g1 }) (h1.extBut b1.extBut D.i1z) (hl1.extBut b1.extBut D.l1z) hx fun g2 j2 b2 => wpAny_pure (wpAny_pure ?_))
    refine wpAny_bind (wpAny_bind (wpAny_holding ?_))
    show wpAny _ _ (Builtin.SmallTypes.nextOf (.ref i2) >>= _) _ _ _
    exact wpAny_bind (RZ.nextOf_tuple_end (s := { s with heap := g2 }) hh ((h2.extBut b1.extBut D.i2z).extBut b2.extBut D.i12.symm) ((hl2.extBut b1.extBut D.l2z).extBut b2.extBut D.l2i1) hy fun g3 e b3 he =>
      hE g3 e (fun c o c1 c2 c3 x => b3 _ _ c3 (b2.extBut _ _ c2 (b1.extBut _ _ c1 x))) he)
/-- the walk stands at i; S: the list that is made -/
structure ZS (h : Heap) (z TI TO i1 i2 a b S : Addr) (xs ys : Array Value) (i : Nat) : Prop where
  pr : IsPair h TI (.ref i1) (.ref i2)
  t1 : h.IsTupleIter i1 a i
  t2 : h.IsTupleIter i2 b i
  a1 : h.IsTuple a xs
  a2 : h.IsTuple b ys
  zz : (i = 0 ∧ IsZip h z TI TO .none ∧ ∃ x y, IsPair h TO x y) ∨ ∃ T f oT, IsZipHeld h z TI TO T f ∧ h.get? T = some oT ∧ T ≠ S ∧ T ≠ z ∧ T ≠ i1 ∧ T ≠ i2
theorem ZS.keep {h h' : Heap} {z TI TO i1 i2 a b S : Addr} {xs ys : Array Value} {i : Nat} (x : ZS h z TI TO i1 i2 a b S xs ys i) (k : ∀ b o, b ≠ S → h.get? b = some o → h'.get? b = some o) (n : ∀ c ∈ [z, TI, TO, i1, i2, a, b], c ≠ S) : ZS h' z TI TO i1 i2 a b S xs ys i := by
  refine ⟨k _ _ (n _ (by simp)) x.pr, x.t1.at fun o e => k _ o (n _ (by simp)) e, x.t2.at fun o e => k _ o (n _ (by simp)) e, ?_, ?_, ?_⟩
  · obtain ⟨o, e, r⟩ := x.a1
    exact ⟨o, k _ o (n _ (by simp)) e, r⟩
  · obtain ⟨o, e, r⟩ := x.a2
    exact ⟨o, k _ o (n _ (by simp)) e, r⟩
  · rcases x.zz with ⟨e, p, u, v, q⟩ | ⟨T, f, oT, p, q, m⟩
    · exact .inl ⟨e, k _ _ (n _ (by simp)) p, u, v, k _ _ (n _ (by simp)) q⟩
    · exact .inr ⟨T, f, oT, k _ _ (n _ (by simp)) p, k _ _ m.1 q, m⟩
theorem tup_keep {h h' : Heap} {a : Addr} {xs : Array Value} (x : h.IsTuple a xs) (k : ∀ o, h.get? a = some o → h'.get? a = some o) : h'.IsTuple a xs := by
  obtain ⟨o, e, r⟩ := x
  exact ⟨o, k o e, r⟩
theorem zs_item {z TI TO i1 i2 a b S : Addr} {xs ys : Array Value} {i : Nat} {x y : Value} {Q : Option Value → Shared → Prop} (D : ZipApart z TI TO i1 i2 a b) (na : a ≠ i1 ∧ a ≠ i2 ∧ b ≠ i1 ∧ b ≠ i2) (st : ZS s.heap z TI TO i1 i2 a b S xs ys i) (hS : S < s.heap.objs.size) (hx : xs[i]? = some x) (hy : ys[i]? = some y)
    (hQ : ∀ h', ZS h' z TI TO i1 i2 a b S xs ys (i + 1) → IsPair h' s.heap.objs.size x y → (∀ c o, c ≠ z → c ≠ TO → c ≠ i1 → c ≠ i2 → s.heap.get? c = some o → h'.get? c = some o) → Q (some (.ref s.heap.objs.size)) { s with heap := h' }) :
    wpAny (model prog w) A (pyNext (.ref z)) Q E s := by
  have l1 : i1 < s.heap.objs.size := by obtain ⟨o, e, _⟩ := st.t1; exact Heap.lt_size e
  have l2 : i2 < s.heap.objs.size := by obtain ⟨o, e, _⟩ := st.t2; exact Heap.lt_size e
  have lt : ∀ {c : Addr}, c < s.heap.objs.size → s.heap.objs.size ≠ c := fun h => Nat.ne_of_gt h
  rcases st.zz with ⟨rfl, hz, u, v, hTO⟩ | ⟨T, f, oT, hz, hT, m⟩
  · refine RZ.pyNext_zipT_item D hz st.pr hTO st.t1 st.t2 st.a1 st.a2 hx hy fun h' p1 p2 p3 p4 p5 p6 p7 => hQ h' ⟨p7 _ _ D.TIz D.TITO D.TIi1 D.TIi2 st.pr, p3, p4, tup_keep st.a1 fun o e => p7 _ o D.l1z D.l1TO na.1 na.2.1 e, tup_keep st.a2 fun o e => p7 _ o D.l2z D.l2TO na.2.2.1 na.2.2.2 e,
      .inr ⟨_, false, _, p1, p5, lt hS, lt (Heap.lt_size hz), lt l1, lt l2⟩⟩ p5 p7
  · have hTy : s.TypeIs (.ref z) "zip" := ⟨_, hz, rfl⟩
    unfold pyNext
    refine wpAny_bind (wpAny_attempt (wpAny_callSpecial?_slot (name := Str.ofString "__next__") hTy F.slot_zip_next (wpAny_call_entry F.slot_zip_next hTy F.entry_zip_next
      (item_held D hz hT st.pr st.t1 st.t2 st.a1 st.a2 hx hy fun h' p1 p3 p4 p5 p6 p7 => wpAny_pure (hQ h' ⟨p7 _ _ D.TIz D.TIi1 D.TIi2 st.pr, p3, p4, tup_keep st.a1 fun o e => p7 _ o D.l1z na.1 na.2.1 e, tup_keep st.a2 fun o e => p7 _ o D.l2z na.2.2.1 na.2.2.2 e,
        .inr ⟨T, true, oT, p1, p7 _ _ m.2.1 m.2.2.1 m.2.2.2 hT, m⟩⟩ p5 fun c o c1 _ c3 c4 e => p7 c o c1 c3 c4 e)) (F.args_zip_next_1 _))))
theorem zs_end {z TI TO i1 i2 a b S : Addr} {xs ys : Array Value} {i : Nat} {Q : Option Value → Shared → Prop} (hh : A.handled = none) (D : ZipApart z TI TO i1 i2 a b) (st : ZS s.heap z TI TO i1 i2 a b S xs ys i) (he : xs[i]? = none ∨ ys[i]? = none)
    (hQ : ∀ h', (∀ c o, c ≠ z → c ≠ TO → c ≠ i1 → c ≠ i2 → s.heap.get? c = some o → h'.get? c = some o) → Q none { s with heap := h' }) : wpAny (model prog w) A (pyNext (.ref z)) Q E s := by
  rcases st.zz with ⟨rfl, hz, u, v, hTO⟩ | ⟨T, f, oT, hz, hT, m⟩
  · exact RZ.pyNext_zipT_end hh D hz st.pr hTO st.t1 st.t2 st.a1 st.a2 he hQ
  · have hTy : s.TypeIs (.ref z) "zip" := ⟨_, hz, rfl⟩
    unfold pyNext
    refine wpAny_bind (wpAny_attempt (wpAny_callSpecial?_slot (name := Str.ofString "__next__") hTy F.slot_zip_next (wpAny_call_entry F.slot_zip_next hTy F.entry_zip_next
      (end_held hh D hz hT st.pr st.t1 st.t2 st.a1 st.a2 he fun h' e hk he => ?_) (F.args_zip_next_1 _))))
    obtain ⟨o, ho, hc⟩ := he
    exact wpAny_bind (wpAny_isInstance (T := "StopIteration") (b := true) ⟨o, ho, hc⟩ isSubtype_stop (wpAny_pure (hQ _ fun c o c1 _ c3 c4 e => hk c o c1 c3 c4 e)))
end
/-- the pairs made so far -/
structure ZG (h : Heap) (lo : Addr) (xs ys : Array Value) (as : List Addr) : Prop where
  rise : as.Pairwise (· < ·)
  above : ∀ a ∈ as, lo < a
  pairs : ∀ (j : Nat) (a : Addr), as[j]? = some a → ∃ x y, xs[j]? = some x ∧ ys[j]? = some y ∧ IsPair h a x y
section
variable {prog : Program} {w : World} {A : Around} {s : Shared} {R : Result → Shared → Prop} {z TI TO i1 i2 a b S : Addr} {xs ys : Array Value} {n : Nat}
theorem ZG.there {h : Heap} {lo : Addr} {as : List Addr} (g : ZG h lo xs ys as) {a : Addr} (ha : a ∈ as) : a < h.objs.size := by
  obtain ⟨j, hj⟩ := List.mem_iff_getElem?.mp ha
  obtain ⟨_, _, _, _, e⟩ := g.pairs j a hj
  exact Heap.lt_size e
theorem zs_loop (hh : A.handled = none) (D : ZipApart z TI TO i1 i2 a b) (na : a ≠ i1 ∧ a ≠ i2 ∧ b ≠ i1 ∧ b ≠ i2) (hSn : ∀ c ∈ [z, TI, TO, i1, i2, a, b], c ≠ S) (hlo : z ≤ S ∧ TO ≤ S ∧ i1 ≤ S ∧ i2 ≤ S) (hn : n = min xs.size ys.size) (hz : n ≤ sizeLine) (res : Value) {h₁ : Heap}
    (hR : ∀ h' tk acc c as, (∀ q o, q ≠ S → q ≠ z → q ≠ TO → q ≠ i1 → q ≠ i2 → h₁.get? q = some o → h'.get? q = some o) → h'.get? S = some { cls := .type "list", dict := none, data := .seq acc c, slots := #[] } → as.length = n → ZG h' S xs ys as → acc.toList = as.map Value.ref → R (.ok (.ret res)) { s with heap := h', toks := tk }) :
    ∀ (k i : Nat) (h : Heap) (tk c : Nat) (acc : Array Value) (as : List Addr), n - i = k → i ≤ n → ZS h z TI TO i1 i2 a b S xs ys i → (∀ q o, q ≠ S → q ≠ z → q ≠ TO → q ≠ i1 → q ≠ i2 → h₁.get? q = some o → h.get? q = some o) →
      h.get? S = some { cls := .type "list", dict := none, data := .seq acc c, slots := #[] } → acc.toList = as.map Value.ref → as.length = i → ZG h S xs ys as →
      codeAny (model prog w) A (.builtin "list.extend.loop" ⟨[.ref S, .ref z, res], []⟩) R { s with heap := h, toks := tk } := by
  have sz : z ≠ S := hSn z (by simp)
  have sT : TO ≠ S := hSn TO (by simp)
  have s1 : i1 ≠ S := hSn i1 (by simp)
  have s2 : i2 ≠ S := hSn i2 (by simp)
  intro k
  induction k with
  | zero =>
    intro i h tk c acc as hk hi st keep hS hacc hal hG
    have he : xs[i]? = none ∨ ys[i]? = none := by
      rw [Array.getElem?_eq_none_iff, Array.getElem?_eq_none_iff]
      omega
    refine codeAny_builtin PySem.F.entry_extend_loop ?_
    rw [Around.under_plainId PySem.F.plain_extend_loop _]
    show wpAny _ A.in1 (pyNext (.ref z) >>= _) _ _ _
    refine wpAny_bind (zs_end (s := { s with heap := h, toks := tk }) (A := A.in1) hh D st he fun h' kp => wpAny_pure (hR h' tk acc c as (fun q o c1 c2 c3 c4 c5 e => kp q o c2 c3 c4 c5 (keep q o c1 c2 c3 c4 c5 e)) (kp S _ sz.symm sT.symm s1.symm s2.symm hS) (by omega) ⟨hG.rise, hG.above, fun j q hj => ?_⟩ hacc))
    obtain ⟨x, y, e1, e2, e3⟩ := hG.pairs j q hj
    have ab := hG.above q (List.mem_of_getElem? hj)
    exact ⟨x, y, e1, e2, kp _ _ (Nat.ne_of_gt (Nat.lt_of_le_of_lt hlo.1 ab)) (Nat.ne_of_gt (Nat.lt_of_le_of_lt hlo.2.1 ab)) (Nat.ne_of_gt (Nat.lt_of_le_of_lt hlo.2.2.1 ab)) (Nat.ne_of_gt (Nat.lt_of_le_of_lt hlo.2.2.2 ab)) e3⟩
  | succ k ih =>
    intro i h tk c acc as hk hi st keep hS hacc hal hG
    have hx : xs[i]? = some xs[i] := Array.getElem?_eq_getElem (by omega)
    have hy : ys[i]? = some ys[i] := Array.getElem?_eq_getElem (by omega)
    have hsz : acc.size = i := by rw [← Array.length_toList, hacc, List.length_map, hal]
    have lS : S < h.objs.size := Heap.lt_size hS
    refine codeAny_builtin PySem.F.entry_extend_loop ?_
    rw [Around.under_plainId PySem.F.plain_extend_loop _]
    show wpAny _ A.in1 (pyNext (.ref z) >>= _) _ _ _
    refine wpAny_bind (zs_item (s := { s with heap := h, toks := tk }) D na st lS hx hy fun h' st' hp kp => ?_)
    dsimp only at hp kp ⊢
    have hS' := kp S _ sz.symm sT.symm s1.symm s2.symm hS
    have up : ∀ q o, q ≠ S → h'.get? q = some o → (h'.update S (Obj.mapSeq (·.push (Value.ref h.objs.size)))).get? q = some o := fun q o hq e => (Heap.get?_update_other _ _ (Ne.symm hq)).trans e
    show wpAny _ A.in1 (updateSeq S (·.push (Value.ref h.objs.size)) >>= _) _ _ _
    refine wpAny_bind ?_
    refine wpAny_updateSeq hS' rfl (wpAny_pure ⟨plainId_quiet PySem.F.plain_extend_loop _, ih (i + 1) _ tk _ (acc.push (Value.ref h.objs.size)) (as ++ [h.objs.size]) (by omega) (by omega) (st'.keep up hSn)
      (fun q o c1 c2 c3 c4 c5 e => up q o c1 (kp q o c2 c3 c4 c5 (keep q o c1 c2 c3 c4 c5 e))) (Heap.get?_update_self _ hS' rfl) (by rw [Array.toList_push, hacc, List.map_append]; rfl) (by rw [List.length_append, hal]; rfl) ⟨?_, ?_, ?_⟩⟩) (by rw [hsz]; omega) (by show (acc.push (Value.ref h.objs.size)).size ≤ sizeLine + 1; rw [Array.size_push, hsz]; omega)
    · refine List.pairwise_append.mpr ⟨hG.rise, List.pairwise_singleton _ _, fun q hq r hr => ?_⟩
      rw [List.mem_singleton.mp hr]
      exact hG.there hq
    · intro q hq
      rcases List.mem_append.mp hq with hq | hq
      · exact hG.above q hq
      · rw [List.mem_singleton.mp hq]; exact lS
    · intro j q hj
      rcases Nat.lt_trichotomy j as.length with h1 | h1 | h1
      · rw [List.getElem?_append_left h1] at hj
        obtain ⟨x, y, e1, e2, e3⟩ := hG.pairs j q hj
        have ab := hG.above q (List.mem_of_getElem? hj)
        exact ⟨x, y, e1, e2, up q _ (Nat.ne_of_gt ab) (kp q _ (Nat.ne_of_gt (Nat.lt_of_le_of_lt hlo.1 ab)) (Nat.ne_of_gt (Nat.lt_of_le_of_lt hlo.2.1 ab)) (Nat.ne_of_gt (Nat.lt_of_le_of_lt hlo.2.2.1 ab)) (Nat.ne_of_gt (Nat.lt_of_le_of_lt hlo.2.2.2 ab)) e3)⟩
      · subst h1
        have hb : h.objs.size = q := by simpa using hj
        subst hb
        exact ⟨_, _, by rw [hal]; exact hx, by rw [hal]; exact hy, up _ _ (Nat.ne_of_gt lS) hp⟩
      · rw [List.getElem?_eq_none (by rw [List.length_append, List.length_singleton]; omega)] at hj
        cases hj
end
theorem zip_no_len : typeLookup (.type "zip") "__len__" = pure none := am_miss_of_fast (by decide +kernel)
theorem zip_no_hint : typeLookup (.type "zip") "__length_hint__" = pure none := am_miss_of_fast (by decide +kernel)
section
variable {prog : Program} {w : World} {A : Around} {E : Value → Shared → Prop} {s : Shared} {z TI TO i1 i2 a b S : Addr} {xs ys : Array Value} {n : Nat}
theorem zs_extend {R : Result → Shared → Prop} (hh : A.handled = none) (D : ZipApart z TI TO i1 i2 a b) (na : a ≠ i1 ∧ a ≠ i2 ∧ b ≠ i1 ∧ b ≠ i2) (hSn : ∀ c ∈ [z, TI, TO, i1, i2, a, b], c ≠ S) (hlo : z ≤ S ∧ TO ≤ S ∧ i1 ≤ S ∧ i2 ≤ S) (hn : n = min xs.size ys.size) (hzl : n ≤ sizeLine) (res : Value) (c₀ : Nat)
    (hz : IsZip s.heap z TI TO .none) (st : ZS s.heap z TI TO i1 i2 a b S xs ys 0) (hS : s.heap.get? S = some { cls := .type "list", data := .seq #[] c₀ })
    (hR : ∀ h' tk acc c as, (∀ q o, q ≠ S → q ≠ z → q ≠ TO → q ≠ i1 → q ≠ i2 → s.heap.get? q = some o → h'.get? q = some o) → h'.get? S = some { cls := .type "list", dict := none, data := .seq acc c, slots := #[] } → as.length = n → ZG h' S xs ys as → acc.toList = as.map Value.ref → R (.ok (.ret res)) { s with heap := h', toks := tk }) :
    wpAny (model prog w) A.in1 (Builtin.List.listExtendWith (.ref S) (.ref z) res)
      (fun fin s' => match fin with | .done f => R (.ok f) s' | .again c' => c'.quiet = true ∧ codeAny (model prog w) A c' R s') (fun e s' => R (.error e) s') s := by
  have zS : S ≠ z := (hSn z (by simp)).symm
  have key : ∀ (h : Heap) (c₁ tk : Nat), (∀ q o, q ≠ S → s.heap.get? q = some o → h.get? q = some o) → h.get? S = some { cls := .type "list", data := .seq #[] c₁ } → codeAny (model prog w) A (.builtin "list.extend.loop" ⟨[.ref S, .ref z, res], []⟩) R { s with heap := h, toks := tk } := fun h c₁ tk hk hS₁ =>
    zs_loop (s := s) (h₁ := s.heap) hh D na hSn hlo hn hzl res hR n 0 h tk c₁ #[] [] (Nat.sub_zero _) (Nat.zero_le _) (st.keep hk hSn) (fun q o c1 _ _ _ _ e => hk q o c1 e) hS₁ rfl rfl ⟨List.Pairwise.nil, (fun _ ha => nomatch ha), (fun j a hj => by simp at hj)⟩
  have hTy : s.TypeIs (.ref z) "zip" := ⟨_, hz, rfl⟩
  unfold Builtin.List.listExtendWith
  refine wpAny_bind (wpAny_typeOf hTy ?_)
  have e1 : Builtin.List.listSameRef (.ref S) (.ref z) = false := by simp [Builtin.List.listSameRef, zS]
  have e2 : (Value.type "zip" == Value.type "list") = false := by decide
  have e3 : (Value.type "zip" == Value.type "tuple") = false := by decide
  simp only [e1, e2, e3, Bool.or_false, Bool.false_eq_true, if_false]
  refine wpAny_bind (wpAny_pyIter_zip hz (wpAny_bind (wpAny_holding ?_)))
  unfold Builtin.List.listLengthHint
  refine wpAny_bind (wpAny_specialOf hTy zip_no_len ?_)
  show wpAny _ A.in1 (specialOf (Value.ref z) (Str.ofString "__length_hint__") >>= _) _ _ _
  refine wpAny_bind (wpAny_specialOf hTy zip_no_hint (wpAny_pure ?_))
  show wpAny _ A.in1 (rule "list.extend.makes-room" >>= fun _ => Builtin.List.listTouch (.ref S) >>= fun _ => again (.builtin "list.extend.loop" ⟨[.ref S, .ref z, res], []⟩)) _ _ _
  refine wpAny_bind (wpAny_rule (wpAny_bind ?_))
  show wpAny _ A.in1 (updateSeq S (·.push .none) >>= fun _ => updateSeq S (·.pop)) _ _ _
  refine wpAny_bind (wpAny_updateSeq hS rfl ?_)
  have g2 := Heap.get?_update_self (Obj.mapSeq (·.push Value.none)) hS rfl
  refine wpAny_updateSeq (hz := by seq_fits) g2 rfl ?_
  have g3 := Heap.get?_update_self (Obj.mapSeq (·.pop)) g2 rfl
  exact wpAny_pure ⟨plainId_quiet PySem.F.plain_extend_loop _, key _ _ _ (fun q o hq e => (Heap.get?_update_other _ _ (Ne.symm hq)).trans ((Heap.get?_update_other _ _ (Ne.symm hq)).trans e)) g3⟩
/-- list(z), z a new zip of two tuples -/
theorem call_list_zip {Q : Value → Shared → Prop} (hh : A.handled = none) (D : ZipApart z TI TO i1 i2 a b) (na : a ≠ i1 ∧ a ≠ i2 ∧ b ≠ i1 ∧ b ≠ i2) (hn : n = min xs.size ys.size) (hzl : n ≤ sizeLine) (hz : IsZip s.heap z TI TO .none) (hTO : ∃ x y, IsPair s.heap TO x y)
    (pr : IsPair s.heap TI (.ref i1) (.ref i2)) (t1 : s.heap.IsTupleIter i1 a 0) (t2 : s.heap.IsTupleIter i2 b 0) (a1 : s.heap.IsTuple a xs) (a2 : s.heap.IsTuple b ys)
    (hQ : ∀ h' tk acc c as, (∀ q o, q ≠ z → q ≠ TO → q ≠ i1 → q ≠ i2 → s.heap.get? q = some o → h'.get? q = some o) → h'.get? s.heap.objs.size = some { cls := .type "list", dict := none, data := .seq acc c, slots := #[] } → as.length = n → ZG h' s.heap.objs.size xs ys as → acc.toList = as.map Value.ref →
      Q (.ref s.heap.objs.size) { s with heap := h', toks := tk }) : wpAny (model prog w) A (call (.type "list") [.ref z]) Q E s := by
  refine callType_codes (Q₁ := fun obj s₁ => obj = .ref s.heap.objs.size ∧ s₁ = { s with heap := s.heap.push { cls := .type "list", data := .seq #[] } }) PySem.F.called_list (PySem.F.typeCall_list_1 _) PySem.F.entry_list_init (code_list_new _ ⟨rfl, rfl⟩) fun obj s₁ q => ?_
  obtain ⟨rfl, rfl⟩ := q
  have hS : (s.heap.push { cls := .type "list", data := .seq #[] }).get? s.heap.objs.size = some { cls := .type "list", data := .seq #[] } := Heap.get?_push_size _ rfl
  have lz : z < s.heap.objs.size := Heap.lt_size hz
  have lT : TO < s.heap.objs.size := let ⟨_, _, e⟩ := hTO; Heap.lt_size e
  have lI : TI < s.heap.objs.size := Heap.lt_size pr
  have l1 : i1 < s.heap.objs.size := by obtain ⟨o, e, _⟩ := t1; exact Heap.lt_size e
  have l2 : i2 < s.heap.objs.size := by obtain ⟨o, e, _⟩ := t2; exact Heap.lt_size e
  have la : a < s.heap.objs.size := by obtain ⟨o, e, _⟩ := a1; exact Heap.lt_size e
  have lb : b < s.heap.objs.size := by obtain ⟨o, e, _⟩ := a2; exact Heap.lt_size e
  have hSn : ∀ c ∈ [z, TI, TO, i1, i2, a, b], c ≠ s.heap.objs.size := fun c hc => by
    simp only [List.mem_cons, List.not_mem_nil, or_false] at hc
    rcases hc with rfl | rfl | rfl | rfl | rfl | rfl | rfl <;> exact Nat.ne_of_lt (by assumption)
  have pu : ∀ {o' : Obj} (q : Addr) (o : Obj), s.heap.get? q = some o → (s.heap.push o').get? q = some o := fun q o e => Heap.get?_push_of_some _ e
  refine ⟨⟨_, hS, rfl⟩, F.args_list_init_2 _ _, ?_⟩
  show wpAny _ A.in1.in1 (do let old ← Builtin.List.listItems (.ref s.heap.objs.size); Builtin.List.listUpdate (.ref s.heap.objs.size) (fun _ => #[]); letGo old.toList.reverse; Builtin.List.listExtendWith (.ref s.heap.objs.size) (.ref z) .none) _ _ _
  refine wpAny_bind ?_
  unfold Builtin.List.listItems
  refine wpAny_bind (wpAny_seqItems hS rfl (wpAny_pure ?_))
  show wpAny _ _ (updateSeq s.heap.objs.size (fun _ => #[]) >>= fun _ => letGo (#[] : Array Value).toList.reverse >>= fun _ => Builtin.List.listExtendWith (.ref s.heap.objs.size) (.ref z) .none) _ _ _
  refine wpAny_bind (wpAny_updateSeq hS rfl ?_)
  have g2 := Heap.get?_update_self (Obj.mapSeq (fun _ => (#[] : Array Value))) hS rfl
  have oth : ∀ q o, q ≠ s.heap.objs.size → s.heap.get? q = some o → ((s.heap.push { cls := .type "list", data := .seq #[] }).update s.heap.objs.size (Obj.mapSeq (fun _ => (#[] : Array Value)))).get? q = some o :=
    fun q o hq e => (Heap.get?_update_other _ _ (Ne.symm hq)).trans (Heap.get?_push_of_some _ e)
  refine wpAny_bind (wpAny_letGo ?_)
  have nS : ∀ {q : Addr} {o : Obj}, s.heap.get? q = some o → q ≠ s.heap.objs.size := fun e => Nat.ne_of_lt (Heap.lt_size e)
  refine zs_extend (A := A.in1) hh D na hSn ⟨Nat.le_of_lt lz, Nat.le_of_lt lT, Nat.le_of_lt l1, Nat.le_of_lt l2⟩ hn hzl .none _ (oth _ _ (nS hz) hz) ?_ g2 fun h' tk acc c as hk hS' hl hG hacc => ?_
  · refine ⟨oth _ _ (nS pr) pr, t1.at fun o e => oth _ o (nS e) e, t2.at fun o e => oth _ o (nS e) e, tup_keep a1 fun o e => oth _ o (nS e) e, tup_keep a2 fun o e => oth _ o (nS e) e, .inl ⟨rfl, oth _ _ (nS hz) hz, ?_⟩⟩
    obtain ⟨x, y, e⟩ := hTO
    exact ⟨x, y, oth _ _ (nS e) e⟩
  · exact ⟨rfl, hQ h' tk acc c as (fun q o c2 c3 c4 c5 e => hk q o (nS e) c2 c3 c4 c5 (oth q o (nS e) e)) hS' hl hG hacc⟩
end
end WZ
set_option maxHeartbeats 2000000
namespace WW
open PySem PySem.Spec PyProof.Rows L2
def putP : Hp → List Addr → List (V × V) → Hp
  | H, t :: ts, p :: ps => putP (upd H t (.tup [p.1, p.2])) ts ps
  | H, _, _ => H
theorem putP_off {b : Addr} : ∀ (ts : List Addr) (ps : List (V × V)) (H : Hp), b ∉ ts → putP H ts ps b = H b
  | [], _, _, _ => rfl
  | _ :: _, [], _, _ => rfl
  | t :: ts, p :: ps, H, h => by
    show putP (upd H t (.tup [p.1, p.2])) ts ps b = H b
    rw [putP_off ts ps _ fun z => h (List.mem_cons_of_mem _ z), upd_ne (show b ≠ t from fun z => h (by rw [z]; exact List.mem_cons_self))]
theorem putP_at : ∀ (ts : List Addr) (ps : List (V × V)) (H : Hp), ts.length = ps.length → ts.Nodup → ∀ (j : Nat) (t : Addr) (p : V × V), ts[j]? = some t → ps[j]? = some p → putP H ts ps t = some (.tup [p.1, p.2])
  | [], _, _, _, _, j, t, p, h, _ => by simp at h
  | _ :: _, [], _, hl, _, _, _, _, _, _ => by cases hl
  | t0 :: ts, p0 :: ps, H, hl, nd, j, t, p, ht, hp => by
    have nd' := List.nodup_cons.mp nd
    cases j with
    | zero =>
      simp at ht hp
      subst ht hp
      show putP (upd H t0 _) ts ps t0 = _
      rw [putP_off ts ps _ nd'.1, upd_same]
    | succ j => exact putP_at ts ps _ (Nat.succ.inj hl) nd'.2 j t p (by simpa using ht) (by simpa using hp)
def rZipL (K : PySem.W.Frag) : List V → Hp → VK → Prop := fun vs H Q => ∃ (a b : Addr) (xs ys : List V), vs = [.ref a, .ref b] ∧ SqT K H a xs ∧ SqT K H b ys ∧ (xs.zip ys).length ≤ sizeLine ∧
  ∀ (p : Addr) (ts : List Addr), H p = none → (∀ t ∈ ts, H t = none) → ts.Nodup → p ∉ ts → ts.length = (xs.zip ys).length → Q (.ref p) (putP (upd H p (.lst (ts.map V.ref))) ts (xs.zip ys))
def tZipL (K : PySem.W.Frag) (ta : TA) : TE := fun σ H Q => ta σ H fun vs H1 => rZipL K vs H1 Q
theorem vals_refs : ∀ as : List Addr, Vals (as.map V.ref) (as.map Value.ref)
  | [] => .nil
  | _ :: as => .cons rfl (vals_refs as)
theorem zip_laid {X : Cx} {pins : List (Addr × Obj)} {σ : L2.St} {H : Hp} {s : Shared} {h' : Heap} {tk : Nat} {xs ys : List V} {us ws : List Value} {acc : Array Value} {c : Nat} {as : List Addr} (I : Inv X pins σ H s) (hz : (xs.zip ys).length ≤ sizeLine) (rx : Vals xs us) (ry : Vals ys ws)
    {S : Addr} (hS0 : s.heap.objs.size ≤ S) (hk : ∀ b o, s.heap.get? b = some o → h'.get? b = some o) (hS : h'.get? S = some { cls := .type "list", dict := none, data := .seq acc c, slots := #[] }) (hl : as.length = (xs.zip ys).length) (hG : WZ.ZG h' S us.toArray ws.toArray as) (hacc : acc.toList = as.map Value.ref) :
    Inv X pins σ (putP (upd H S (.lst (as.map V.ref))) as (xs.zip ys)) { s with heap := h', toks := tk } ∧ H S = none ∧ (∀ t ∈ as, H t = none) ∧ as.Nodup ∧ S ∉ as := by
  have nd : as.Nodup := List.Pairwise.imp (fun {a b} (h : a < b) => Nat.ne_of_lt h) hG.rise
  have hSn : S ∉ as := fun z => Nat.lt_irrefl _ (hG.above _ z)
  have newS : H S = none := I.hok.fresh hS0
  have new : ∀ t ∈ as, H t = none := fun t ht => I.hok.fresh (Nat.le_of_lt (Nat.lt_of_le_of_lt hS0 (hG.above t ht)))
  have off : ∀ b, b ∉ as → b ≠ S → putP (upd H S (.lst (as.map V.ref))) as (xs.zip ys) b = H b := fun b h1 h2 => by rw [putP_off as _ _ h1, upd_ne h2]
  have low : ∀ b o, s.heap.get? b = some o → b ∉ as ∧ b ≠ S := fun b o e => ⟨fun z => absurd (Heap.lt_size e) (Nat.not_lt.mpr (Nat.le_of_lt (Nat.lt_of_le_of_lt hS0 (hG.above b z)))), fun z => absurd (Heap.lt_size e) (Nat.not_lt.mpr (z ▸ hS0))⟩
  have kp : ∀ b u, H b = some u → putP (upd H S (.lst (as.map V.ref))) as (xs.zip ys) b = some u := fun b u e => by
    rw [off b (fun z => by rw [new b z] at e; cases e) (fun z => by rw [z, newS] at e; cases e)]
    exact e
  have eS : putP (upd H S (.lst (as.map V.ref))) as (xs.zip ys) S = some (.lst (as.map V.ref)) := by rw [putP_off as _ _ hSn, upd_same]
  refine ⟨?_, newS, new, nd, hSn⟩
  refine I.call' (ch := []) rfl ⟨fun b o q _ _ _ => hk b o q, fun b o q _ _ _ => ⟨o.slots, hk b o q⟩, fun b o q n _ => ?_, fun b o q _ => ⟨o, hk b o q⟩, fun b xs q => kp b _ q, fun b o u q => kp b _ q, fun b ps q => ⟨#[], by rw [kp b _ q]; simp⟩⟩ (fun b u q => ?_) I.bare fun b z => by simp at z
  · obtain ⟨z1, z2⟩ := low b o q
    rw [off b z1 z2]
    exact n
  · by_cases hb : b ∈ as
    · obtain ⟨j, e1⟩ := List.mem_iff_getElem?.mp hb
      obtain ⟨x, y, f1, f2, f3⟩ := hG.pairs j b e1
      have jl : j < (xs.zip ys).length := by rw [← hl]; exact (List.getElem?_eq_some_iff.mp e1).1
      obtain ⟨p, hp⟩ : ∃ p, (xs.zip ys)[j]? = some p := ⟨_, List.getElem?_eq_getElem jl⟩
      have e3 := putP_at as (xs.zip ys) (upd H S (.lst (as.map V.ref))) hl nd j b p e1 hp
      have hp' := List.getElem?_zip_eq_some.mp hp
      obtain ⟨u1, g1, r1⟩ := rx.get hp'.1
      obtain ⟨u2, g2, r2⟩ := ry.get hp'.2
      have k1 : u1 = x := by
        have : us.toArray[j]? = some u1 := by simpa using g1
        rw [this] at f1; exact Option.some.inj f1
      have k2 : u2 = y := by
        have : ws.toArray[j]? = some u2 := by simpa using g2
        rw [this] at f2; exact Option.some.inj f2
      subst k1 k2
      rw [e3] at q
      cases q
      exact ⟨by show 2 ≤ sizeLine; decide, [u1, u2], .cons r1 (.cons r2 .nil), ⟨_, f3, rfl, _, rfl⟩⟩
    · by_cases hb2 : b = S
      · rw [hb2] at q ⊢
        rw [eS] at q
        cases q
        refine ⟨by rw [List.length_map]; omega, acc.toList, c, by rw [hacc]; exact vals_refs as, ?_⟩
        rw [Array.toArray_toList]
        exact hS
      · rw [off b hb hb2] at q
        exact (I.hok b u q).stay (fun d v _ y => hk d v y) (fun d y => kp d _ y) fun d xs y => kp d _ y
section
variable {X : Cx} {e e2 : Expr} {ta : TA} {p p1 pos pos1 : Pos}
theorem pe_listZip (hc : X.calm = true) (hg : Gl X "list") (hm : X.mg "list" = none) (hg1 : Gl X "zip") (hm1 : X.mg "zip" = none) (ha : PA X [e, e2] ta)
    (hs : starEach [e, e2] X.env = (false, eval e X.env) :: starEach [e2] X.env := by rfl) (hpl : (backTo pos1 (starEach [e2] X.env)).any (·.1) = false := by rfl)
    (hz : starEach [.Call (.Name "zip" p1) [e, e2] [] pos1] X.env = (false, eval (.Call (.Name "zip" p1) [e, e2] [] pos1) X.env) :: starEach [] X.env := by rfl) :
    PE X (.Call (.Name "list" p) [.Call (.Name "zip" p1) [e, e2] [] pos1] [] pos) (tZipL X.K ta) := by
  refine ⟨fun pins s σ H Q I hq => ?_⟩
  refine Call_ (ld_blt I hg hm (by decide +kernel : bootBuiltins "list" = some (.type "list")) ?_)
  refine PyProof.Rows.callWith_type1 ?_ hz rfl
  rw [hz]
  refine Calls.spliced_cons ?_
  refine Call_ (ld_blt I hg1 hm1 PyProof.Rows.boot_zip (PyProof.Rows.callWith_type1 (thn (ha.run pos1 pins s σ H _ I hq) fun us s1 ⟨vs, H1, I1, r1, q1⟩ => ?_) hs hpl))
  obtain ⟨a, b, xs, ys, ex, hqx, hqy, hzl, q1⟩ := q1
  subst ex
  cases r1 with
  | cons r rr =>
    cases rr with
    | cons r' rr =>
      cases rr
      cases r
      cases r'
      obtain ⟨its, rv, p1', _⟩ := I1.tuple hqx
      obtain ⟨its2, rv2, p2', _⟩ := I1.tuple hqy
      have la : a < s1.heap.objs.size := by obtain ⟨o, ho, _⟩ := id p1'; exact Heap.lt_size ho
      have lb : b < s1.heap.objs.size := by obtain ⟨o, ho, _⟩ := id p2'; exact Heap.lt_size ho
      refine RZ.call_zipT (show s1.heap.IsTuple a its.toArray from p1') (show s1.heap.IsTuple b its2.toArray from p2') fun h' hz' hTI hTO h1 h2 hsz hk => ?_
      refine Calls.spliced_nil ?_
      have I2 : Inv X pins σ H1 { s1 with heap := h' } := I1.kept (t' := s1.toks) hk
      have ln : (xs.zip ys).length = min its.toArray.size its2.toArray.size := by
        rw [List.length_zip, rv.length, rv2.length, List.size_toArray, List.size_toArray]
      refine WZ.call_list_zip (s := { s1 with heap := h' }) (I1.ok.hd hc) (PySem.W.ktu_apart s1.heap.objs.size a b la lb) ⟨Nat.ne_of_lt la, Nat.ne_of_lt (Nat.lt_succ_of_lt la), Nat.ne_of_lt lb, Nat.ne_of_lt (Nat.lt_succ_of_lt lb)⟩ ln (by omega) hz' ⟨_, _, hTO⟩ hTI h1 h2 (WZ.tup_keep p1' fun o e => hk _ o e) (WZ.tup_keep p2' fun o e => hk _ o e) fun h2 tk acc c as hk2 hS hl hG hacc => ?_
      have up : ∀ q o, s1.heap.get? q = some o → h2.get? q = some o := fun q o e => by
        have lt := Heap.lt_size e
        exact hk2 q o (Nat.ne_of_lt (Nat.lt_of_lt_of_le lt (Nat.le_add_right _ _))) (Nat.ne_of_lt (Nat.lt_of_lt_of_le lt (Nat.le_add_right _ _))) (Nat.ne_of_lt lt) (Nat.ne_of_lt (Nat.lt_succ_of_lt lt)) (hk q o e)
      obtain ⟨J, n1, n2, n3, n4⟩ := zip_laid (s := s1) (h' := h2) (tk := tk) (S := h'.objs.size) I1 hzl rv rv2 (by omega) up hS hl hG hacc
      exact ⟨.ref h'.objs.size, _, J, rfl, q1 h'.objs.size as n1 n2 n3 n4 hl⟩
end
/-- the pairs, frozen -/
theorem sta_putP {c : Cfg} {e : Gh} {L : List (List Addr)} {T : List Cell} {σ : L2.St} {ρ : En} : ∀ (ts : List Addr) (ps : List (V × V)) (qs : List (D × D)) (G H : Hp), Sta c e L T G H σ ρ → (∀ t ∈ ts, H t = none) → ts.Nodup → ts.length = ps.length →
    RepL c L G (ps.map (·.1)) (qs.map (·.1)) → RepL c L G (ps.map (·.2)) (qs.map (·.2)) → ∃ G', Same G G' ∧ Sta c e L T G' (putP H ts ps) σ ρ ∧ RepL c L G' (ts.map V.ref) (qs.map fun q => D.tup [q.1, q.2]) ∧ ∀ b, b ∉ ts → G b = none → G' b = none
  | [], [], qs, G, H, S, _, _, _, r1, r2 => by
    cases qs with
    | nil => exact ⟨G, Same.refl _, S, .nil, fun b _ h => h⟩
    | cons _ _ => cases r1
  | [], _ :: _, _, _, _, _, _, _, h, _, _ => by cases h
  | _ :: _, [], _, _, _, _, _, _, h, _, _ => by cases h
  | t :: ts, p :: ps, qs, G, H, S, nw, nd, hl, r1, r2 => by
    cases qs with
    | nil => cases r1
    | cons q qs =>
      cases r1 with
      | cons x1 t1 =>
        cases r2 with
        | cons x2 t2 =>
          have nd' := List.nodup_cons.mp nd
          have hp := nw t List.mem_cons_self
          have gs : Same G (upd G t (.tup [p.1, p.2])) := same_upd (S.gnone hp)
          obtain ⟨G', g, S', r, k⟩ := sta_putP (c := c) ts ps qs _ _ (S.new hp (.tup [p.1, p.2])) (fun u hu => by rw [upd_ne (show u ≠ t from fun z => nd'.1 (by rw [← z]; exact hu))]; exact nw u (List.mem_cons_of_mem _ hu)) nd'.2 (Nat.succ.inj hl) (t1.up (LE.refl _) gs) (t2.up (LE.refl _) gs)
          refine ⟨G', gs.trans g, S', .cons ?_ r, fun b hb hn => k b (fun z => hb (List.mem_cons_of_mem _ z)) (by rw [upd_ne (show b ≠ t from fun z => hb (by rw [z]; exact List.mem_cons_self))]; exact hn)⟩
          refine .tup (.inl (.inl (g _ _ upd_same))) (.cons (x1.up (LE.refl _) (gs.trans g)) (.cons (x2.up (LE.refl _) (gs.trans g)) .nil)) (by show 2 ≤ sizeLine; decide)
def zipM : List D → M (List D)
  | [.tup xs, .tup ys] => M.ret ((xs.zip ys).map fun q => .tup [q.1, q.2])
  | _ => M.fail
theorem RepL.zip {c : Cfg} {L : List (List Addr)} {G : Hp} : ∀ {vs ws : List V} {xs ys : List D}, RepL c L G vs xs → RepL c L G ws ys → RepL c L G ((vs.zip ws).map (·.1)) ((xs.zip ys).map (·.1)) ∧ RepL c L G ((vs.zip ws).map (·.2)) ((xs.zip ys).map (·.2)) ∧ (vs.zip ws).length = (xs.zip ys).length
  | _, _, _, _, .nil, _ => ⟨.nil, .nil, rfl⟩
  | _, _, _, _, .cons _ _, .nil => ⟨.nil, .nil, rfl⟩
  | _, _, _, _, .cons r t, .cons r' t' => by
    obtain ⟨a, b, d⟩ := RepL.zip t t'
    exact ⟨.cons r a, .cons r' b, congrArg (· + 1) d⟩
theorem co_zip {c : Cfg} : CallO c (rZipL c.K) zipM := by
  intro e W L T G H σ ρ vs ds Q S r p
  cases r with
  | nil => exact False.elim p
  | cons r1 r2 =>
    cases r2 with
    | nil => cases r1 <;> exact False.elim p
    | cons r2 r3 =>
      cases r3 with
      | cons _ _ => cases r1 <;> first | exact False.elim p | (cases r2 <;> exact False.elim p)
      | nil =>
        cases r1 with
        | @tup a xs ds h1 h2 h3 =>
          cases r2 with
          | @tup b ys es g1 g2 g3 =>
            obtain ⟨z1, z2, z3⟩ := RepL.zip h2 g2
            have zl : (xs.zip ys).length ≤ sizeLine := by
              rw [List.length_zip, h2.length]
              exact Nat.le_trans (Nat.min_le_left _ _) h3
            refine ⟨a, b, xs, ys, rfl, S.subS.sqT h1, S.subS.sqT g1, zl, fun q ts hq ht nd hqt hl => ?_⟩
            have S1 := S.grow (o := .lst (ts.map V.ref)) hq
            have nw : ∀ t ∈ ts, upd H q (.lst (ts.map V.ref)) t = none := fun t m => by rw [upd_ne (show t ≠ q from fun z => hqt (by rw [← z]; exact m))]; exact ht t m
            obtain ⟨G', gs, S', rr, k⟩ := sta_putP ts (xs.zip ys) (ds.zip es) G _ S1 nw nd hl z1 z2
            have at_ : putP (upd H q (.lst (ts.map V.ref))) ts (xs.zip ys) q = some (.lst (ts.map V.ref)) := by rw [putP_off ts _ _ hqt, upd_same]
            refine p q L G' _ (LE.refl _) gs S' ⟨⟨_, at_, rr, by rw [List.length_map, ← z3]; exact zl⟩, k q hqt (S.gnone hq), S.notcell hq, S.notcell0 hq, S.h0none hq (S.notcell hq) (S.notcell0 hq), S.notx hq, S.notslot hq⟩
          | _ => exact False.elim p
        | _ => exact False.elim p
section
variable {X : Cx} {c : Cfg} {W : WX} {k : Nat} {a b : Expr} {fa fb : Ex} {p p1 pos pos1 : Pos}
theorem do_zip (h : Ctx X c W k) (ha : PE X a (tD c W fa)) (hb : PE X b (tD c W fb)) (ns : NS a := by intro _ _; rfl) (ns2 : NS b := by intro _ _; rfl) (hg : Gl X "list" := by rfl) (hg1 : Gl X "zip" := by rfl)
    (hpl : (backTo pos1 (starEach [b] X.env)).any (·.1) = false := by rfl) (hz : starEach [.Call (.Name "zip" p1) [a, b] [] pos1] X.env = (false, eval (.Call (.Name "zip" p1) [a, b] [] pos1) X.env) :: starEach [] X.env := by rfl) :
    PE X (.Call (.Name "list" p) [.Call (.Name "zip" p1) [a, b] [] pos1] [] pos) (tO c W (oCall zipM [fa, fb])) :=
  (pe_listZip h.calm hg h.bl.list hg1 h.bl.zip (da_cons ha (da_cons hb da_nil (ns2 _ _)) (ns _ _)) (ns _ _) hpl hz).imp fun σ H Q q => callo_end (h.hK ▸ co_zip) q
end
end WW
set_option maxHeartbeats 2000000
namespace WW
open PySem PySem.Spec PyProof.Rows L2
section
variable {c : Cfg} {e : Gh} {L : List (List Addr)} {T : List Cell} {G H : Hp} {σ : L2.St} {ρ : En}
theorem in_dct {neg : Bool} {q : Addr} {o : HO} {ks vs : List D} {x : V} {a : D} {Q : VK} (s : Sub G H) (rx : Rep c L G x a) (dr : DRep c L G q o ks vs) (hq : Rd H q o) (z : keyOk ks a = true) (fin : Q (.bl (xor neg (ks.any fun z => eqB z a))) H) : rInA c.P c.w c.K neg x (.ref q) H Q := by
  unfold keyOk at z
  rcases dr with ⟨kvs, rfl, h2, h3, h4⟩ | ⟨es, rfl, h0, h2, h3, h4, h5⟩
  · rcases Bool.or_eq_true_iff.mp z with z | z
    · obtain ⟨k, rfl⟩ := si_key rx (Bool.and_eq_true_iff.mp z).1
      rw [(dk_get h2 h3 rx).1] at fin
      exact .inl ⟨q, kvs, k, rfl, hq, rfl, fin⟩
    · obtain ⟨z1, z2⟩ := Bool.and_eq_true_iff.mp z
      obtain ⟨ds, k, e1, e2, dp⟩ := isTup_key z1
      obtain ⟨bb, nk⟩ := tup_nkey s rx ⟨ds, e1⟩ e2 dp
      cases kvs with
      | nil =>
        cases h2
        rw [show (List.any [] fun z => eqB z a) = false from rfl, Bool.xor_false] at fin
        exact .inr (.inl ⟨q, bb, k, rfl, hq, nk, fin⟩)
      | cons p0 kvs =>
        cases h2 with
        | @cons _ _ d' ds' r1 t1 =>
          have := (List.all_eq_true.mp z2) d' List.mem_cons_self
          obtain ⟨_, _, e3, _⟩ := isTup_key this
          subst e3
          obtain ⟨k0, v0⟩ := p0
          cases k0 <;> cases r1
  · rcases Bool.or_eq_true_iff.mp z with z | z
    · obtain ⟨z1, z2⟩ := Bool.and_eq_true_iff.mp z
      cases es with
      | nil => exact absurd rfl h0
      | cons p0 es =>
        cases h2 with
        | @cons _ _ d' ds' r1 t1 =>
          have z3 := (List.all_eq_true.mp z2) d' List.mem_cons_self
          cases r1 <;> cases z3
    · obtain ⟨z1, z2⟩ := Bool.and_eq_true_iff.mp z
      obtain ⟨ds, k, e1, e2, dp⟩ := isTup_key z1
      obtain ⟨bb, nk⟩ := tup_nkey s rx ⟨ds, e1⟩ e2 dp
      rw [(dn_get h2 h3 h4 e2).1] at fin
      exact .inr (.inr ⟨q, es, bb, k, rfl, hq, keys_at s h2 h3, nk, fin⟩)
theorem ix_dct {q : Addr} {o : HO} {ks vs : List D} {y : V} {b r : D} {Q : VK} (s : Sub G H) (ry : Rep c L G y b) (dr : DRep c L G q o ks vs) (hq : Rd H q o) (z : keyOk ks b = true) (g : dgetD ks vs b = some r) (fin : ∀ v, Rep c L G v r → Q v H) :
    (∃ a kvs k v, V.ref q = .ref a ∧ Rd H a (.dK kvs) ∧ y = kV k ∧ valV kvs k = some v ∧ Q v H) ∨ rGetN c.P c.w c.K (.ref q) y H Q := by
  unfold keyOk at z
  rcases dr with ⟨kvs, rfl, h2, h3, h4⟩ | ⟨es, rfl, h0, h2, h3, h4, h5⟩
  · rcases Bool.or_eq_true_iff.mp z with z | z
    · obtain ⟨k, rfl⟩ := si_key ry (Bool.and_eq_true_iff.mp z).1
      obtain ⟨v, hv, rv⟩ := (dk_get h2 h3 ry).2 r g
      exact .inl ⟨q, kvs, k, v, rfl, hq, rfl, hv, fin v rv⟩
    · obtain ⟨z1, z2⟩ := Bool.and_eq_true_iff.mp z
      cases kvs with
      | nil => cases h2; cases g
      | cons p0 kvs =>
        cases h2 with
        | @cons _ _ d' ds' r1 t1 =>
          have := (List.all_eq_true.mp z2) d' List.mem_cons_self
          obtain ⟨_, _, e3, _⟩ := isTup_key this
          subst e3
          obtain ⟨k0, v0⟩ := p0
          cases k0 <;> cases r1
  · rcases Bool.or_eq_true_iff.mp z with z | z
    · obtain ⟨z1, z2⟩ := Bool.and_eq_true_iff.mp z
      cases es with
      | nil => exact absurd rfl h0
      | cons p0 es =>
        cases h2 with
        | @cons _ _ d' ds' r1 t1 =>
          have z3 := (List.all_eq_true.mp z2) d' List.mem_cons_self
          cases r1 <;> cases z3
    · obtain ⟨z1, z2⟩ := Bool.and_eq_true_iff.mp z
      obtain ⟨ds, k, e1, e2, dp⟩ := isTup_key z1
      obtain ⟨bb, nk⟩ := tup_nkey s ry ⟨ds, e1⟩ e2 dp
      obtain ⟨v, hv, rv⟩ := (dn_get h2 h3 h4 e2).2 r g
      exact .inr ⟨q, es, bb, k, v, rfl, hq, keys_at s h2 h3, nk, hv, fin v rv⟩
theorem own_at (S : Sta c e L T G H σ ρ) {i : Nat} {ks vs : List D} (h : ownD ρ i = some (ks, vs)) : ∃ q o, σ[i]? = some (some (.ref q)) ∧ H q = some o ∧ DRep c L G q o ks vs := by
  obtain ⟨q, o, h1, h2, _, _, _, alt⟩ := slot_own S (ownD_ok h) trivial
  rcases alt with ⟨_, _, e1, _⟩ | ⟨ks', vs', e1, dr⟩
  · cases e1
  · cases e1
    exact ⟨q, o, h1, h2, dr⟩
end
def inOK (neg : Bool) (i : Nat) (ρ : En) (k : D) : M D := match ownD ρ i with
  | some (ks, _) => if keyOk ks k = true then M.ret (.bl (xor neg (ks.any fun z => eqB z k))) else M.fail
  | none => M.fail
def dInO (neg : Bool) (i : Nat) (f : Ex) : Ex := fun ρ => f ρ >>= fun k => inOK neg i ρ k
def dIxD (i : Nat) (f : Ex) : Ex := fun ρ => match ownD ρ i with
  | some (ks, vs) => f ρ >>= fun k => if keyOk ks k = true then M.ofO (dgetD ks vs k) else M.fail
  | none => M.fail
section
variable {X : Cx} {c : Cfg} {W : WX} {k : Nat} {a b : Expr} {fa fb : Ex} {pos' pos : Pos} {x : Str}
theorem inO_end {neg : Bool} {i : Nat} {σ : L2.St} {H : Hp} {Q : VK} (q : tD c W (dInO neg i fa) σ H Q) : tD c W fa σ H fun y H1 => tVar i σ H1 fun x H2 => rInA c.P c.w c.K neg y x H2 Q := by
  refine (tG.one (R1 := Rep c) (f := fa) (k := fun k ρ => inOK neg i ρ k) q).mono fun y H1 ⟨e, L, T, G, ρ, d, S, r, p⟩ => ?_
  cases hx : ownD ρ i with
  | none => simp only [inOK, hx] at p; exact p.bad
  | some kv =>
    obtain ⟨ks, vs⟩ := kv
    simp only [inOK, hx] at p
    by_cases z : keyOk ks d = true
    · rw [if_pos z] at p
      obtain ⟨q0, o, h1, h2, dr⟩ := own_at S hx
      exact ⟨.ref q0, h1, in_dct S.subS r dr (.inl h2) z (p.val S (.bl _))⟩
    · rw [if_neg z] at p; exact p.bad
theorem de_inO (i : Nat) (h : Ctx X c W k) (ha : PE X a (tD c W fa)) (hm : behindInMarks .In (.Name x pos') = false := by rfl) (hi : X.N[i]? = some x := by rfl) (hv : Vis X.env.scope x := by first | exact Or.inl rfl | exact Or.inr (Or.inl rfl) | exact Or.inr (Or.inr rfl)) (hd : (x == ("__debug__" : Str)) = false := by decide) (hcd : (x == ("__classdict__" : Str)) = false := by decide) :
    PE X (.Compare a [.In] [.Name x pos'] pos) (tD c W (dInO false i fa)) := by
  refine (pe_cmpR (op_inA h.u9) ha (pe_var hi hv hd hcd) hm).imp fun σ H Q q => ?_
  rw [h.hP, h.hw, h.hK]
  exact inO_end q
theorem de_ninO (i : Nat) (h : Ctx X c W k) (ha : PE X a (tD c W fa)) (hm : behindInMarks .NotIn (.Name x pos') = false := by rfl) (hi : X.N[i]? = some x := by rfl) (hv : Vis X.env.scope x := by first | exact Or.inl rfl | exact Or.inr (Or.inl rfl) | exact Or.inr (Or.inr rfl)) (hd : (x == ("__debug__" : Str)) = false := by decide) (hcd : (x == ("__classdict__" : Str)) = false := by decide) :
    PE X (.Compare a [.NotIn] [.Name x pos'] pos) (tD c W (dInO true i fa)) := by
  refine (pe_cmpR (op_ninA h.u9) ha (pe_var hi hv hd hcd) hm).imp fun σ H Q q => ?_
  rw [h.hP, h.hw, h.hK]
  exact inO_end q
theorem dtO_end {neg : Bool} {i : Nat} {σ : L2.St} {H : Hp} {Q : Bool → Hp → Prop} (q : tT c W (tVal (dInO neg i fa)) σ H Q) : tD c W fa σ H fun y H1 => tVar i σ H1 fun x H2 => rInA c.P c.w c.K neg y x H2 fun v H' => ∃ k, v = .bl k ∧ Q k H' := by
  refine inO_end ?_
  obtain ⟨e, L, T, G, ρ, S, p⟩ := q
  exact ⟨e, L, T, G, ρ, S, test_end p⟩
theorem dt_inO (i : Nat) (h : Ctx X c W k) (ha : PE X a (tD c W fa)) (hm : behindInMarks .In (.Name x pos') = false := by rfl) (hi : X.N[i]? = some x := by rfl) (hv : Vis X.env.scope x := by first | exact Or.inl rfl | exact Or.inr (Or.inl rfl) | exact Or.inr (Or.inr rfl)) (hd : (x == ("__debug__" : Str)) = false := by decide) (hcd : (x == ("__classdict__" : Str)) = false := by decide) :
    PT X (.Compare a [.In] [.Name x pos'] pos) (tT c W (tVal (dInO false i fa))) := by
  refine (pt_cmpR (op_inA h.u9) ha (pe_var hi hv hd hcd) hm).imp fun σ H Q q => ?_
  rw [h.hP, h.hw, h.hK]
  exact dtO_end q
theorem dt_ninO (i : Nat) (h : Ctx X c W k) (ha : PE X a (tD c W fa)) (hm : behindInMarks .NotIn (.Name x pos') = false := by rfl) (hi : X.N[i]? = some x := by rfl) (hv : Vis X.env.scope x := by first | exact Or.inl rfl | exact Or.inr (Or.inl rfl) | exact Or.inr (Or.inr rfl)) (hd : (x == ("__debug__" : Str)) = false := by decide) (hcd : (x == ("__classdict__" : Str)) = false := by decide) :
    PT X (.Compare a [.NotIn] [.Name x pos'] pos) (tT c W (tVal (dInO true i fa))) := by
  refine (pt_cmpR (op_ninA h.u9) ha (pe_var hi hv hd hcd) hm).imp fun σ H Q q => ?_
  rw [h.hP, h.hw, h.hK]
  exact dtO_end q
theorem de_ixD (i : Nat) (h : Ctx X c W k) (hb : PE X b (tD c W fb)) (hs : PlainIx b := by exact fun _ _ => rfl) (hi : X.N[i]? = some x := by rfl) (hv : Vis X.env.scope x := by first | exact Or.inl rfl | exact Or.inr (Or.inl rfl) | exact Or.inr (Or.inr rfl)) (hd : (x == ("__debug__" : Str)) = false := by decide) (hcd : (x == ("__classdict__" : Str)) = false := by decide) :
    PE X (.Subscript (.Name x pos') b pos) (tD c W (dIxD i fb)) := by
  refine (pe_ix (IxR.or (ix_dk (by have := h.u9; omega)) (ix_dn h.u9)) (pe_var hi hv hd hcd) hb hs).imp fun σ H Q ⟨e, L, T, G, ρ, S, p⟩ => ?_
  cases hx : ownD ρ i with
  | none => simp only [dIxD, hx] at p; exact p.bad
  | some kv =>
    obtain ⟨ks, vs⟩ := kv
    simp only [dIxD, hx] at p
    obtain ⟨q0, o0, hσ, _⟩ := own_at S hx
    refine ⟨.ref q0, hσ, e, L, T, G, ρ, S, (PostG.then (R1 := Rep c) p).mono fun y H2 ⟨L1, T1, G1, kk, l1, g1, S1, ry, _, p1⟩ => ?_⟩
    obtain ⟨q1, o, hσ', ho, dr⟩ := own_at S1 hx
    rw [hσ] at hσ'
    cases hσ'
    by_cases z : keyOk ks kk = true
    · rw [if_pos z] at p1
      cases g : dgetD ks vs kk with
      | none => rw [g] at p1; exact p1.bad
      | some r =>
        rw [g] at p1
        rw [h.hP, h.hw, h.hK]
        exact ix_dct S1.subS ry dr (.inl ho) z g fun v rv => p1.val S1 rv
    · rw [if_neg z] at p1; exact p1.bad
end
end WW
set_option maxHeartbeats 2000000
namespace WW
open PySem PySem.Spec PyProof.Rows L2
/-- a dict of n entries stands at a -/
def DictAt0 (h : Heap) (a : Addr) (n : Nat) : Prop := ∃ o es ep, h.get? a = some o ∧ o.ExactDict ∧ o.data = .dict es ep ∧ es.size = n ∧ (a == sysModules) = false
theorem same_empty {prog : Program} {w : World} {A : Around} {E : Value → Shared → Prop} {s : Shared} {nm : String} {a b : Addr} {n : Nat} {Q : Bool → Shared → Prop} (da : DictAt0 s.heap a n) (db : DictAt0 s.heap b 0) (h : Q (n == 0) s) : wpAny (model prog w) A (Builtin.Dict.samePairs nm a b) Q E s := by
  obtain ⟨oa, es, ep, hoa, _, hda, la, ha⟩ := da
  obtain ⟨ob, es', ep', hob, _, hdb, lb, hb⟩ := db
  unfold Builtin.Dict.samePairs Builtin.Dict.showsAll
  rw [if_neg (show ¬ (a == sysModules) = true by rw [ha]; exact Bool.false_ne_true), if_neg (show ¬ (b == sysModules) = true by rw [hb]; exact Bool.false_ne_true)]
  refine wpAny_bind (wpAny_pure (wpAny_bind (wpAny_pure (wpAny_bind (wpAny_dictEntries hoa hda ?_)))))
  dsimp only
  refine wpAny_bind (wpAny_dictEntries hob hdb ?_)
  by_cases z : n = 0
  · have e1 : es.size = es'.size := by omega
    rw [if_neg (by rw [e1]; simp)]
    refine wpAny_bind (wpAny_dictEpoch hoa hda (wpAny_bind ?_))
    rw [Std.Legacy.Range.forIn_eq_forIn_range']
    simp only [Std.Legacy.Range.size, Nat.sub_zero, Nat.add_sub_cancel, Nat.div_one]
    rw [show es.size = 0 by omega]
    subst z
    exact wpAny_pure (wpAny_pure h)
  · have e1 : es.size ≠ es'.size := by omega
    have e2 : (n == 0) = false := by simpa using z
    rw [if_pos (by simpa using e1)]
    rw [e2] at h
    exact wpAny_bind (wpAny_rule (wpAny_pure h))
theorem DictAt0.typeIs {s : Shared} {a : Addr} {n : Nat} (d : DictAt0 s.heap a n) : s.TypeIs (.ref a) "dict" := by
  obtain ⟨o, _, _, h1, h2, _⟩ := d
  exact ⟨o, h1, h2.1⟩
section
variable {prog : Program} {w : World} {A : Around} {E : Value → Shared → Prop} {s : Shared} {a b : Addr} {n : Nat} {Q : Value → Shared → Prop}
theorem eq_empty (da : DictAt0 s.heap a n) (db : DictAt0 s.heap b 0) (hu : A.units < cLine) (h : Q (.bool (n == 0)) s) : wpAny (model prog w) A (compareOp .Eq (.ref a) (.ref b)) Q E s := by
  refine wpAny_richCompare_same_room (op := .Eq) da.typeIs db.typeIs PySem.F.slot_dict_eq (wpAny_call_entry PySem.F.slot_dict_eq da.typeIs PySem.F.entry_dict_eq ?_ (PySem.F.args_dict_eq_2 _ _)) hu
  show wpAny _ _ (Builtin.Dict.dictSlotArgs "__eq__" ⟨[.ref a, .ref b], []⟩ >>= _) _ _ s
  refine wpAny_bind ?_
  unfold Builtin.Dict.dictSlotArgs
  refine wpAny_bind (wpAny_notOrdered_dict da.typeIs ?_)
  show wpAny _ _ (pure (Value.ref a, Value.ref b)) _ _ s
  refine wpAny_pure (wpAny_bind (wpAny_isInstance (T := "dict") db.typeIs PySem.F.sub_dict_dict ?_))
  simp only [Bool.not_true, Bool.false_eq_true, if_false]
  refine wpAny_bind (wpAny_pure (wpAny_bind (wpAny_pure (wpAny_bind (same_empty da db (wpAny_pure ⟨_, rfl, ?_, ?_⟩))))))
  · exact fun x => nomatch x
  · simpa using h
theorem ne_empty (da : DictAt0 s.heap a n) (db : DictAt0 s.heap b 0) (hu : A.units < cLine) (h : Q (.bool (!(n == 0))) s) : wpAny (model prog w) A (compareOp .NotEq (.ref a) (.ref b)) Q E s := by
  refine wpAny_richCompare_same_room (op := .NotEq) da.typeIs db.typeIs PySem.F.slot_dict_ne (wpAny_call_entry PySem.F.slot_dict_ne da.typeIs PySem.F.entry_dict_ne ?_ (PySem.F.args_dict_ne_2 _ _)) hu
  show wpAny _ _ (Builtin.Dict.dictSlotArgs "__ne__" ⟨[.ref a, .ref b], []⟩ >>= _) _ _ s
  refine wpAny_bind ?_
  unfold Builtin.Dict.dictSlotArgs
  refine wpAny_bind (wpAny_notOrdered_dict da.typeIs ?_)
  show wpAny _ _ (pure (Value.ref a, Value.ref b)) _ _ s
  refine wpAny_pure (wpAny_bind (wpAny_isInstance (T := "dict") db.typeIs PySem.F.sub_dict_dict ?_))
  simp only [Bool.not_true, Bool.false_eq_true, if_false]
  refine wpAny_bind (wpAny_pure (wpAny_bind (wpAny_pure (wpAny_bind (same_empty da db (wpAny_pure ⟨_, rfl, ?_, ?_⟩))))))
  · exact fun x => nomatch x
  · simpa using h
end
theorem dk_at0 {X : Cx} {pins : List (Addr × Obj)} {σ : L2.St} {H : Hp} {s : Shared} {a : Addr} {kvs : List (Key × V)} (I : Inv X pins σ H s) (e : Rd H a (.dK kvs)) : DictAt0 s.heap a kvs.length := by
  obtain ⟨z, hd, vs, kv, o, ds, ep, ho, hx, hdt, h1, h2, h3⟩ := e.ok I.hok
  refine ⟨o, ds, ep, ho, hx, hdt, ?_, hd⟩
  have l1 := h2.length
  have l2 := Paired.length kv
  rw [← Array.length_toList]
  omega
theorem dn_at0 {X : Cx} {pins : List (Addr × Obj)} {σ : L2.St} {H : Hp} {s : Shared} {a : Addr} {es : List Ent} (I : Inv X pins σ H s) (e : Rd H a (dictN X.prog X.w a es)) : DictAt0 s.heap a es.length := by
  obtain ⟨⟨h1, h2, h3, h4, xs, pr, o, ds, ep, ho, hx, hd, he⟩, _, _⟩ := e.ok I.hok
  refine ⟨o, ds, ep, ho, hx, hd, ?_, h2⟩
  have l1 := pr.length
  rw [← Array.length_toList, he, List.length_map, ← l1]
def rEmpty (P : Program) (w : World) (neg : Bool) : R2 := fun x y H Q => ∃ a q n, x = .ref a ∧ y = .ref q ∧ H q = some (.dK []) ∧ ((∃ kvs, Rd H a (.dK kvs) ∧ kvs.length = n) ∨ ∃ es, Rd H a (dictN P w a es) ∧ es.length = n) ∧ Q (.bl (xor neg (n == 0))) H
theorem op_eqE {X : Cx} (hu : X.A.units < cLine) : OpR X (compareOp .Eq) (rEmpty X.prog X.w false) := by
  intro pins s σ H x y v u Q I rx ry h
  obtain ⟨a, q, n, rfl, rfl, hq, ha, fin⟩ := h
  obtain rfl : v = Value.ref a := rx
  obtain rfl : u = Value.ref q := ry
  have da : DictAt0 s.heap a n := by
    rcases ha with ⟨kvs, e, l⟩ | ⟨es, e, l⟩
    · rw [← l]; exact dk_at0 I e
    · rw [← l]; exact dn_at0 I e
  exact eq_empty da (dk_at0 I (.inl hq)) hu ⟨.bl (n == 0), H, I, rfl, by rw [Bool.false_xor] at fin; exact fin⟩
theorem op_neE {X : Cx} (hu : X.A.units < cLine) : OpR X (compareOp .NotEq) (rEmpty X.prog X.w true) := by
  intro pins s σ H x y v u Q I rx ry h
  obtain ⟨a, q, n, rfl, rfl, hq, ha, fin⟩ := h
  obtain rfl : v = Value.ref a := rx
  obtain rfl : u = Value.ref q := ry
  have da : DictAt0 s.heap a n := by
    rcases ha with ⟨kvs, e, l⟩ | ⟨es, e, l⟩
    · rw [← l]; exact dk_at0 I e
    · rw [← l]; exact dn_at0 I e
  exact ne_empty da (dk_at0 I (.inl hq)) hu ⟨.bl (!(n == 0)), H, I, rfl, by rw [Bool.true_xor] at fin; exact fin⟩
def emptM (neg : Bool) : D → M D
  | .dct ks _ => M.ret (.bl (xor neg (ks.length == 0)))
  | _ => M.fail
section
variable {X : Cx} {c : Cfg} {W : WX} {k : Nat} {a : Expr} {fa : Ex} {pos p2 : Pos}
theorem empt_end {neg : Bool} {σ : L2.St} {H : Hp} {Q : VK} (q : tD c W (d1 (emptM neg) fa) σ H Q) : tD c W fa σ H fun x H1 => ∀ q, H1 q = none → rEmpty c.P c.w neg x (.ref q) (upd H1 q (.dK [])) Q := by
  refine (tD_one q).mono fun x H1 ⟨e, L, T, G, ρ, d, S, r, p⟩ q0 hq => ?_
  cases d with
  | dct ks vs =>
    simp only [emptM] at p
    have fin := p.val (S.grow (o := .dK []) hq) (.bl _)
    have ne : ∀ {a : Addr} {u : HO}, H1 a = some u → upd H1 q0 (.dK []) a = some u := fun {a u} h => by rw [upd_ne (ne_of_none h hq)]; exact h
    cases r with
    | @dk a ob kvs _ _ h1 h2 h3 h4 =>
      have l := h2.length
      rw [List.length_map] at l
      rw [← l] at fin
      exact ⟨a, q0, kvs.length, rfl, rfl, upd_same, .inl ⟨kvs, .inr ⟨ob, ne (S.subS.frz h1)⟩, rfl⟩, fin⟩
    | @dn a ob es _ _ h1 h0 h2 h3 h4 h5 =>
      have l := h2.length
      rw [List.length_map] at l
      rw [← l] at fin
      exact ⟨a, q0, es.length, rfl, rfl, upd_same, .inr ⟨es, .inr ⟨ob, ne (S.subS.frz h1)⟩, rfl⟩, fin⟩
  | _ => exact p.bad
theorem de_eqE (h : Ctx X c W k) (ha : PE X a (tD c W fa)) : PE X (.Compare a [.Eq] [.Dict [] [] p2] pos) (tD c W (d1 (emptM false) fa)) := by
  refine (pe_cmpR (op_eqE (by have := h.units; omega)) ha pe_dnewK (nom _)).imp fun σ H Q q => ?_
  rw [h.hP, h.hw]
  exact empt_end q
theorem de_neE (h : Ctx X c W k) (ha : PE X a (tD c W fa)) : PE X (.Compare a [.NotEq] [.Dict [] [] p2] pos) (tD c W (d1 (emptM true) fa)) := by
  refine (pe_cmpR (op_neE (by have := h.units; omega)) ha pe_dnewK (nom _)).imp fun σ H Q q => ?_
  rw [h.hP, h.hw]
  exact empt_end q
theorem dtE_end {neg : Bool} {σ : L2.St} {H : Hp} {Q : Bool → Hp → Prop} (q : tT c W (tVal (d1 (emptM neg) fa)) σ H Q) : tD c W fa σ H fun x H1 => ∀ q, H1 q = none → rEmpty c.P c.w neg x (.ref q) (upd H1 q (.dK [])) fun v H' => ∃ k, v = .bl k ∧ Q k H' := by
  refine empt_end ?_
  obtain ⟨e, L, T, G, ρ, S, p⟩ := q
  exact ⟨e, L, T, G, ρ, S, test_end p⟩
theorem dt_eqE (h : Ctx X c W k) (ha : PE X a (tD c W fa)) : PT X (.Compare a [.Eq] [.Dict [] [] p2] pos) (tT c W (tVal (d1 (emptM false) fa))) := by
  refine (pt_cmpR (op_eqE (by have := h.units; omega)) ha pe_dnewK (nom _)).imp fun σ H Q q => ?_
  rw [h.hP, h.hw]
  exact dtE_end q
theorem dt_neE (h : Ctx X c W k) (ha : PE X a (tD c W fa)) : PT X (.Compare a [.NotEq] [.Dict [] [] p2] pos) (tT c W (tVal (d1 (emptM true) fa))) := by
  refine (pt_cmpR (op_neE (by have := h.units; omega)) ha pe_dnewK (nom _)).imp fun σ H Q q => ?_
  rw [h.hP, h.hw]
  exact dtE_end q
end
end WW
set_option maxHeartbeats 2000000
namespace WW
open PySem PySem.Spec PyProof.Rows L2
section
variable {X : Cx} {pins : List (Addr × Obj)} {σ : L2.St} {H : Hp} {s : Shared}
/-- a dict with these keys stands at a -/
def DKeys (h : Heap) (a : Addr) (us : List Value) : Prop := ∃ es ep, h.DictRaw a es ep ∧ us = es.toList.map (·.key) ∧ (a == sysModules) = false
theorem dk_keys {a : Addr} {kvs : List (Key × V)} (I : Inv X pins σ H s) (e : Rd H a (.dK kvs)) : ∃ us, DKeys s.heap a us ∧ Vals (kvs.map fun p => kV p.1) us ∧ kvs.length ≤ sizeLine := by
  obtain ⟨z, hd, vs, kv, o, ds, ep, ho, hx, hdt, h1, h2, h3⟩ := e.ok I.hok
  refine ⟨_, ⟨ds, ep, ⟨o, ho, hx, hdt⟩, rfl, hd⟩, ?_, z⟩
  have key : ∀ {kvs : List (Key × V)} {vs : List (Key × Value)} {l : List DictEntry}, KV kvs vs → Pairs (mixKind X.prog X.w) l vs → Vals (kvs.map fun p => kV p.1) (l.map (·.key)) := by
    intro kvs vs l kv
    induction kv generalizing l with
    | nil => intro p; cases p; exact .nil
    | @cons x y xs ys r t ih =>
      intro p
      cases p with
      | cons q1 q2 q3 =>
        refine .cons ?_ (ih q3)
        show L2.RelV (kV x.1) _
        rw [r.1]
        exact relV_key q1
  exact key kv h2
theorem dn_keys {a : Addr} {es : List Ent} (I : Inv X pins σ H s) (e : Rd H a (dictN X.prog X.w a es)) : ∃ us, DKeys s.heap a us ∧ Vals (es.map fun e => V.ref e.2.1) us ∧ es.length ≤ sizeLine := by
  obtain ⟨⟨h1, h2, h3, h4, xs, pr, o, ds, ep, ho, hx, hd, he⟩, w1, w2⟩ := e.ok I.hok
  refine ⟨_, ⟨ds, ep, ⟨o, ho, hx, hd⟩, rfl, h2⟩, ?_, h1⟩
  rw [he, List.map_map]
  clear he hd ho h1 h2 h3 h4 e w1 w2
  induction pr with
  | nil => exact .nil
  | @cons x y xs ys r t ih =>
    refine .cons ?_ ih
    show Value.ref y.2.1 = Value.ref x.2.1
    rw [r.2.1]
/-- sorted(d), by its keys' order -/
theorem sorted_dict {d : Addr} {vs : List Value} {ltv : Value → Value → Bool} {Q : Value → Shared → Prop} {E : Value → Shared → Prop} (O : SrtO.Swo ltv) (hh : X.A.handled = none) (hm : DKeys s.heap d vs) (hz : vs.length ≤ sizeLine)
    (hS : 2 ≤ vs.length → ∀ (h₁ : Heap) (a : Addr) (tk : Nat), h₁.get? a = some (seqObj "list" vs.toArray 0) → (∀ b o, s.heap.get? b = some o → b ≠ a ∧ h₁.get? b = some o) → SrtO.SortableO X.prog X.w X.A.in1.in1 { s with heap := h₁, toks := tk } a vs ltv)
    (h : ∀ (out : List Value) (h1 h' : Heap) (tk n : Nat), SrtO.Srtd ltv out → SrtO.Stb ltv out vs → (∀ b o, s.heap.get? b = some o → h1.get? b = some o) → (∀ b o, h1.get? b = some o → h'.get? b = some o) → h'.get? h1.objs.size = some (seqObj "list" out.toArray n) → Q (.ref h1.objs.size) { s with heap := h', toks := tk }) :
    wpAny (model X.prog X.w) X.A (call (.builtin "sorted") [.ref d]) Q E s := by
  obtain ⟨es, ep, raw, rfl, lo⟩ := hm
  refine Calls.call_function_entry kind_sorted plain_sorted entry_sorted (args_sorted1 _) ?_
  unfold Builtin.«sorted»
  refine wpAny_bind (m := checkCount "sorted" 1 1 _) (wpAny_pure ?_)
  refine wpAny_bind (PySem.W.kdu_collect (A := X.A.in1) (PySem.KdlSrc.rawDict (es := es) (ep := ep) lo) hh raw (by simpa using hz) fun h' tk acc hk hacc => ?_)
  have ea : acc.toList = es.toList.map (·.key) := by
    apply List.ext_getElem?
    intro i
    have l1 := hacc.1
    by_cases lt : i < es.size
    · have lt2 : i < acc.size := by omega
      obtain ⟨hi, e⟩ := hacc.2 i acc[i] (Array.getElem?_eq_getElem lt2)
      rw [Array.getElem?_toList, Array.getElem?_eq_getElem lt2, e, List.getElem?_map, Array.getElem?_toList, Array.getElem?_eq_getElem hi]
      rfl
    · rw [List.getElem?_eq_none (by rw [Array.length_toList]; omega), List.getElem?_eq_none (by rw [List.length_map, Array.length_toList]; omega)]
  rw [ea]
  generalize es.toList.map (·.key) = vs at hz hS h
  refine wpAny_bind (wpAny_newList ?_ hz)
  have hoL : (h'.push (seqObj "list" vs.toArray 0)).get? h'.objs.size = some (seqObj "list" vs.toArray 0) := Heap.get?_push_size _ rfl
  have keep1 : ∀ b o, h'.get? b = some o → b ≠ h'.objs.size ∧ (h'.push (seqObj "list" vs.toArray 0)).get? b = some o := fun b o q => ⟨Nat.ne_of_lt (Heap.lt_size q), Heap.get?_push_of_some _ q⟩
  have keep : ∀ b o, s.heap.get? b = some o → b ≠ h'.objs.size ∧ (h'.push (seqObj "list" vs.toArray 0)).get? b = some o := fun b o q => keep1 b o (hk b o q)
  show wpAny _ _ _ _ _ { s with heap := h'.push (seqObj "list" vs.toArray 0), toks := tk }
  refine wpAny_bind (wpAny_holding (wpAny_call_entry slot_list_sort ⟨_, hoL, rfl⟩ entry_list_sort (SrtO.list_sort_ord (s := { s with heap := h'.push (seqObj "list" vs.toArray 0), toks := tk }) O hoL hz (fun h2 => hS h2 _ _ tk hoL keep) fun out hs hb => ⟨_, rfl, ?_⟩) (args_list_sort _)))
  obtain ⟨n, hn⟩ := sortedHeap_at (vs := vs) (out := out.toArray) hoL
  refine wpAny_pure ⟨_, rfl, h out h' _ tk n hs hb hk (fun b o q => ?_) hn⟩
  obtain ⟨k1, k2⟩ := keep1 b o q
  rw [sortedHeap_old k1 (Heap.lt_size k2)]
  exact k2
end
/-- the items of a dict, as values -/
def DItems (P : Program) (w : World) (H : Hp) (a : Addr) (xs : List V) : Prop := (∃ kvs, Rd H a (.dK kvs) ∧ xs = kvs.map fun p => kV p.1) ∨ ∃ es, Rd H a (dictN P w a es) ∧ xs = es.map fun e => V.ref e.2.1
theorem ditems {X : Cx} {pins : List (Addr × Obj)} {σ : L2.St} {H : Hp} {s : Shared} {a : Addr} {xs : List V} (I : Inv X pins σ H s) (h : DItems X.prog X.w H a xs) : ∃ us, DKeys s.heap a us ∧ Vals xs us ∧ xs.length ≤ sizeLine := by
  rcases h with ⟨kvs, e, rfl⟩ | ⟨es, e, rfl⟩
  · obtain ⟨us, h1, h2, h3⟩ := dk_keys I e
    exact ⟨us, h1, h2, by rw [List.length_map]; exact h3⟩
  · obtain ⟨us, h1, h2, h3⟩ := dn_keys I e
    exact ⟨us, h1, h2, by rw [List.length_map]; exact h3⟩
def rSortDI (P : Program) (w : World) : List V → Hp → VK → Prop := fun vs H Q => ∃ (a : Addr) (ns : List Int), vs = [V.ref a] ∧ DItems P w H a (ns.map V.int) ∧ ∀ (ms : List Int) p, ms.Perm ns → ms.Pairwise (· ≤ ·) → H p = none → Q (.ref p) (upd H p (.lst (ms.map V.int)))
theorem cr_sortDI {X : Cx} (hc : X.calm = true) : CallR X (.builtin "sorted") (rSortDI X.prog X.w) := by
  intro pins s σ H vs us Q I r h
  obtain ⟨a, ns, rfl, hs, q⟩ := h
  obtain ⟨its, hk, rv, hz⟩ := ditems I hs
  rw [Vals.ref1 r]
  have hi := rv.ints
  refine sorted_dict SrtO.swo_int (I.ok.hd hc) hk (by rw [← rv.length]; exact hz) (fun h2 h₁ a' tk _ _ => SrtO.ints_sortable hi h2) fun out h1 h' tk n s1 s2 k1 k2 k3 => ?_
  obtain ⟨o1, o2, o3⟩ := SrtO.ints_out hi s1 s2
  have I1 : Inv X pins σ H { s with heap := h1 } := I.kept (t' := s.toks) k1
  have new := I1.hok.fresh (Nat.le_refl h1.objs.size)
  have hlen : ((out.map SrtO.iv).map V.int).length ≤ sizeLine := by
    rw [List.length_map, o2.length_eq]
    rw [List.length_map] at hz
    exact hz
  exact ⟨.ref _, upd H h1.objs.size (.lst ((out.map SrtO.iv).map V.int)), I1.laid (t' := tk) k2 (Nat.le_refl _) ⟨hlen, out, n, vals_of_ints o1, k3⟩, rfl, q _ _ o2 o3 new⟩
/-- .. of tuples of ints -/
def rSortDT (P : Program) (w : World) (K : PySem.W.Frag) : List V → Hp → VK → Prop := fun vs H Q => ∃ (a : Addr) (ps : List (V × List Int)), vs = [V.ref a] ∧ DItems P w H a (ps.map (·.1)) ∧ (∀ q ∈ ps, ∃ t, q.1 = V.ref t ∧ SqT K H t (q.2.map V.int)) ∧ (2 ≤ ps.length → ∀ q ∈ ps, q.2 ≠ []) ∧
  ∀ (qs : List (V × List Int)) p, qs.Perm ps → (qs.map (·.2)).Pairwise (fun x y => lexLe x y = true) → H p = none → Q (.ref p) (upd H p (.lst (qs.map (·.1))))
theorem cr_sortDT {X : Cx} (hc : X.calm = true) : CallR X (.builtin "sorted") (rSortDT X.prog X.w X.K) := by
  intro pins s σ H vs us Q I r h
  obtain ⟨a, ps, rfl, hs, hx, hne, q⟩ := h
  have hk : ∀ q ∈ ps, (ps.lookup q.1).getD [] = q.2 := fun q hq => by
    obtain ⟨b, h1, h2⟩ := lookup_mem hq
    rw [h1]
    obtain ⟨t, e1, s1⟩ := hx q hq
    obtain ⟨t', e2, s2⟩ := hx _ h2
    rw [e1] at e2
    cases e2
    exact int_inj (I.tuple_inj s2 s1)
  generalize hkd : (fun x : V => (ps.lookup x).getD []) = k at hk
  have hk' : ∀ q ∈ ps, k q.1 = q.2 := fun q hq => by rw [← hkd]; exact hk q hq
  obtain ⟨its, hdk, rv, hz⟩ := ditems I hs
  rw [Vals.ref1 r]
  obtain ⟨e1, e2⟩ := bk_of rv fun x m => by
    obtain ⟨q, hq, rfl⟩ := List.mem_map.mp m
    obtain ⟨t, e, _⟩ := hx q hq
    exact ⟨t, e⟩
  have hp : ∀ v ∈ its, IsTupI s.heap v (k (bk v)) := fun v hv => by
    obtain ⟨t, rfl, hm⟩ := e2 v hv
    obtain ⟨q, hq, eq⟩ := List.mem_map.mp hm
    obtain ⟨t', e, ht⟩ := hx q hq
    rw [eq] at e
    cases e
    obtain ⟨its2, r2, ⟨o, ho, hc, n, hd⟩, _⟩ := I.tuple ht
    have e3 : k (V.ref t) = q.2 := by rw [← eq]; exact hk' q hq
    exact ⟨t, o, its2.toArray, n, rfl, ho, hc, hd, show IntsAre its2 (k (V.ref t)) by rw [e3]; exact r2.ints⟩
  have hlen := rv.length
  rw [List.length_map] at hlen hz
  refine sorted_dict (swo_lexI fun u => k (bk u)) (I.ok.hd hc) hdk (by rw [← hlen]; exact hz) (fun h2 h₁ a' tk ha kk => ?_) fun out h1 h' tk n s1 s2 k1 k2 k3 => ?_
  · refine tups_sortable (s := { s with heap := h₁, toks := tk }) (by omega) (fun v hm => (hp v hm).keeps fun b o e _ => (kk b o e).2) (fun v hv => ?_) fun o e => ?_
    · obtain ⟨t, rfl, hm⟩ := e2 v hv
      obtain ⟨q, hq, eq⟩ := List.mem_map.mp hm
      have e3 : k (V.ref t) = q.2 := by rw [← eq]; exact hk' q hq
      show k (V.ref t) ≠ []
      rw [e3]
      exact hne (by omega) q hq
    · have e' : some o = some (seqObj "list" its.toArray 0) := e.symm.trans ha
      cases e'
      intro c
      exact absurd (Value.type.inj c) (by decide)
  · have I1 : Inv X pins σ H { s with heap := h1 } := I.kept (t' := s.toks) k1
    have new := I1.hok.fresh (Nat.le_refl h1.objs.size)
    have h3 : ∀ u ∈ out, ∃ a, u = Value.ref a := fun u hu => by
      obtain ⟨t, e, _⟩ := e2 u (s2.perm.mem_iff.mp hu)
      exact ⟨t, e⟩
    have hperm : (out.map bk).Perm (ps.map (·.1)) := by rw [← e1]; exact s2.perm.map bk
    have hl2 : (out.map bk).length ≤ sizeLine := by rw [hperm.length_eq, List.length_map]; exact hz
    have hps : (ps.map (·.1)).map (fun x => (x, k x)) = ps := by
      rw [List.map_map]
      conv => rhs; rw [← List.map_id ps]
      exact List.map_congr_left fun q hq => by
        show (q.1, k q.1) = q
        rw [hk' q hq]
    have hqs : ((out.map bk).map fun x => (x, k x)).Perm ps := by
      have := hperm.map fun x => (x, k x)
      rw [hps] at this
      exact this
    have e4 : ((out.map bk).map fun x => (x, k x)).map (·.1) = out.map bk := by
      rw [List.map_map]
      exact List.map_id _
    have e5 : ((out.map bk).map fun x => (x, k x)).map (·.2) = out.map fun u => k (bk u) := by
      rw [List.map_map, List.map_map]; rfl
    have q' := q _ h1.objs.size hqs (by
      rw [e5]
      refine List.pairwise_map.mpr (s1.imp fun {x y} h => ?_)
      have h' : HT.lexLt (k (bk y)) (k (bk x)) = false := h
      unfold lexLe
      rw [h']; rfl) new
    rw [e4] at q'
    exact ⟨.ref _, upd H h1.objs.size (.lst (out.map bk)), I1.laid (t' := tk) k2 (Nat.le_refl _) ⟨hl2, out, n, vals_bk h3, k3⟩, rfl, q'⟩
def sortA : D → M (List D)
  | .dct ks _ => (match intsOf ks with
    | some ns => M.ret ((isort ns).map .int)
    | none => (match tupsOf ks with
      | some t => if 2 ≤ t.length → ∀ ns ∈ t, ns ≠ [] then M.ret ((tsort t).map tupI) else M.fail
      | none => M.fail))
  | x => sortM x
theorem rep_ditems {c : Cfg} {L : List (List Addr)} {G H : Hp} {v : V} {ks vs : List D} (s : Sub G H) (r : Rep c L G v (.dct ks vs)) : ∃ a xs, v = .ref a ∧ DItems c.P c.w H a xs ∧ RepL c L G xs ks := by
  cases r with
  | @dk a ob kvs _ _ h1 h2 h3 h4 => exact ⟨a, _, rfl, .inl ⟨kvs, .inr ⟨ob, s.frz h1⟩, rfl⟩, h2⟩
  | @dn a ob es _ _ h1 h0 h2 h3 h4 h5 => exact ⟨a, _, rfl, .inr ⟨es, .inr ⟨ob, s.frz h1⟩, rfl⟩, h2⟩
theorem RepL.len_le {c : Cfg} {L : List (List Addr)} {G : Hp} {v : V} {ks vs : List D} (r : Rep c L G v (.dct ks vs)) : ks.length ≤ sizeLine := by
  cases r with
  | @dk a ob kvs _ _ h1 h2 h3 h4 =>
    have l := h2.length
    rw [List.length_map] at l
    omega
  | @dn a ob es _ _ h1 h0 h2 h3 h4 h5 =>
    have l := h2.length
    rw [List.length_map] at l
    omega
theorem co_sortA {c : Cfg} : CallO c (fun vs H Q => (rSortedI c.K vs H Q ∨ rSortedT c.K vs H Q) ∨ rSortDI c.P c.w vs H Q ∨ rSortDT c.P c.w c.K vs H Q) (F1 sortA) := by
  intro e W L T G H σ ρ vs ds Q S r p
  cases r with
  | nil => exact False.elim p
  | @cons v vs d ds r1 r2 =>
    cases r2 with
    | cons _ _ => exact False.elim p
    | nil =>
      cases d with
      | dct ks us =>
        obtain ⟨a, xs, rfl, hd, rx⟩ := rep_ditems S.subS r1
        have lz := RepL.len_le r1
        refine .inr ?_
        simp only [F1, sortA] at p
        cases q : intsOf ks with
        | some ns =>
          rw [q] at p
          have e1 := intsOf_some q
          subst e1
          have e2 := rx.ints
          subst e2
          refine .inl ⟨a, ns, rfl, hd, fun ms x hp hs hn => ?_⟩
          have e3 : ms = isort ns := sorted_uniq (hp.trans (isort_perm ns).symm) hs (isort_sorted ns)
          subst e3
          exact PostO.newO p S (repL_ints _) (by rw [List.length_map, (isort_perm ns).length_eq]; rw [List.length_map] at lz; exact lz) _ hn
        | none =>
          rw [q] at p
          cases q2 : tupsOf ks with
          | none => rw [q2] at p; exact False.elim p
          | some t =>
            rw [q2] at p
            have e1 := tupsOf_some q2
            subst e1
            obtain ⟨ps, rfl, rfl, hr⟩ := repL_tups rx
            dsimp only at p
            by_cases z : 2 ≤ (ps.map (·.2)).length → ∀ ns ∈ ps.map (·.2), ns ≠ []
            · rw [if_pos z] at p
              refine .inr ⟨a, ps, rfl, hd, fun q hq => ?_, fun h2 q hq => z (by rw [List.length_map]; exact h2) _ (List.mem_map_of_mem hq), fun qs x hp hs hn => ?_⟩
              · have := hr q hq
                revert this
                generalize q.1 = v1
                intro this
                cases this with
                | tup h1 h2 h3 => exact ⟨_, rfl, by rw [← h2.ints]; exact S.subS.sqT h1⟩
              · have e3 : qs.map (·.2) = tsort (ps.map (·.2)) := tsort_uniq ((hp.map _).trans (tsort_perm _).symm) hs (tsort_sorted _)
                rw [← e3] at p
                exact PostO.newO p S (repL_of qs fun q hq => hr q (hp.mem_iff.mp hq)) (by rw [List.length_map, List.length_map, hp.length_eq]; rw [List.length_map, List.length_map] at lz; exact lz) _ hn
            · rw [if_neg z] at p; exact False.elim p
      | _ => exact .inl (co_sorted e W L T G H σ ρ [v] [_] Q S (.cons r1 .nil) p)
section
variable {X : Cx} {c : Cfg} {W : WX} {k : Nat} {a : Expr} {fa : Ex} {pos p : Pos}
theorem do_sortA (h : Ctx X c W k) (ha : PE X a (tD c W fa)) (ns : NS a := by intro _ _; rfl) (hg : Gl X "sorted" := by rfl) : PE X (.Call (.Name "sorted" p) [a] [] pos) (tO c W (oCall (F1 sortA) [fa])) := by
  refine (pe_callB (CallR.orr (CallR.orr cr_sortedI cr_sortedT) (CallR.orr (cr_sortDI h.calm) (cr_sortDT h.calm))) hg h.bl.sorted (by decide +kernel) (da_cons ha da_nil (ns _ _)) (he := ns _ _)).imp fun σ H Q q => ?_
  rw [h.hK, h.hP, h.hw]
  exact callo_end co_sortA q
end
end WW
set_option maxHeartbeats 2000000
namespace WW
open PySem PySem.Spec PyProof.Rows L2
def isFlat : D → Bool
  | .non => true
  | .bl _ => true
  | .int _ => true
  | .str _ => true
  | _ => false
theorem flat_rep {c : Cfg} {L L' : List (List Addr)} {G G' : Hp} {v : V} {d : D} (h : Rep c L G v d) (f : isFlat d = true) : Rep c L' G' v d := by
  cases h with
  | non => exact .non
  | bl b => exact .bl b
  | int i => exact .int i
  | str s h => exact .str s h
  | _ => cases f
def onlyD : Option SV → Option SV
  | some (.d x) => some (.d x)
  | _ => none
def lookE (ρ : En) (i : Nat) (xs : List D) : En := (ρ.map onlyD).set i (some (.d (.lst xs)))
def dPeek (i : Nat) (f : Ex) : Ex := fun ρ => match ownL ρ i with
  | some xs => f (lookE ρ i xs) >>= fun d => if isFlat d = true then M.ret d else M.fail
  | none => f ρ
def tPeek (i : Nat) (f : Tx) : Tx := fun ρ => match ownL ρ i with
  | some xs => f (lookE ρ i xs)
  | none => f ρ
def without (G : Hp) (q : Addr) : Hp := fun a => if a = q then none else G a
section
variable {c : Cfg} {e : Gh} {W : WX} {σ : L2.St} {ρ : En} {L : List (List Addr)} {G H : Hp} {T : List Cell}
theorem without_ne {G : Hp} {q a : Addr} (h : a ≠ q) : without G q a = G a := if_neg h
theorem without_eq {G : Hp} {q : Addr} : without G q q = none := if_pos rfl
theorem look_get {ρ : En} {i j : Nat} {xs : List D} {sv : SV} (h : (lookE ρ i xs)[j]? = some (some sv)) : (j = i ∧ sv = .d (.lst xs)) ∨ (j ≠ i ∧ ∃ x, sv = .d x ∧ ρ[j]? = some (some (.d x))) := by
  unfold lookE at h
  rcases get_set h with ⟨rfl, e1⟩ | ⟨hj, h⟩
  · cases e1; exact .inl ⟨rfl, rfl⟩
  · rw [List.getElem?_map] at h
    cases q : ρ[j]? with
    | none => rw [q] at h; cases h
    | some o =>
      rw [q] at h
      cases o with
      | none => cases h
      | some s =>
        cases s with
        | d x => cases h; exact .inr ⟨hj, x, rfl, rfl⟩
        | ol x => cases h
        | od x y => cases h
/-- what the other slots own -/
theorem others_own (S : Sta c e L T G H σ ρ) (i : Nat) : ∀ n : Nat, ∃ l : List (Addr × HO), (∀ j sv, j < n → j ≠ i → ρ[j]? = some (some sv) → Own sv → ∃ q ∈ l, σ[j]? = some (some (.ref q.1)) ∧ H q.1 = some q.2) ∧
    ∀ q ∈ l, H q.1 = some q.2 ∧ G q.1 = none ∧ q.1 ∉ L.flatten ∧ e.H0 q.1 = none ∧ ∃ j sv, j ≠ i ∧ ρ[j]? = some (some sv) ∧ Own sv ∧ σ[j]? = some (some (.ref q.1))
  | 0 => ⟨[], fun j sv h => absurd h (Nat.not_lt_zero j), fun q h => by cases h⟩
  | n + 1 => by
    obtain ⟨l, h1, h2⟩ := others_own S i n
    by_cases z : n ≠ i ∧ ∃ sv, ρ[n]? = some (some sv) ∧ Own sv
    · obtain ⟨ni, sv, hs, ow⟩ := z
      obtain ⟨q, o, k1, k2, k3, k4, k5, _⟩ := slot_own S hs ow
      refine ⟨(q, o) :: l, fun j sv' lt ne hj ow' => ?_, fun p hp => ?_⟩
      · by_cases jn : j = n
        · subst jn
          exact ⟨(q, o), List.mem_cons_self, k1, k2⟩
        · obtain ⟨p, m, r⟩ := h1 j sv' (by omega) ne hj ow'
          exact ⟨p, List.mem_cons_of_mem _ m, r⟩
      · rcases List.mem_cons.mp hp with rfl | hp
        · exact ⟨k2, k3, k4, k5, n, sv, ni, hs, ow, k1⟩
        · exact h2 p hp
    · refine ⟨l, fun j sv' lt ne hj ow' => ?_, h2⟩
      by_cases jn : j = n
      · subst jn
        exact absurd ⟨ne, sv', hj, ow'⟩ z
      · exact h1 j sv' (by omega) ne hj ow'
def Gh.adds (e : Gh) (l : List (Addr × HO)) : Gh := { e with xo := l ++ e.xo }
/-- the look's state, and the way out of it -/
theorem peek_in (S : Sta c e L T G H σ ρ) {i : Nat} {xs : List D} (h : ownL ρ i = some xs) : ∃ (q : Addr) (l : List (Addr × HO)) (G1 : Hp), Same G G1 ∧ Sta c (e.adds l) L T G1 H σ (lookE ρ i xs) ∧
    ∀ {L' : List (List Addr)} {T' : List Cell} {G' H' : Hp}, LE L L' → Same G1 G' → Sta c (e.adds l) L' T' G' H' σ (lookE ρ i xs) → Same G (without G' q) ∧ Sta c e L' T' (without G' q) H' σ ρ := by
  have hi := ownL_ok h
  obtain ⟨q, o, hv, hp, hg, hl, h0, alt⟩ := slot_own S hi trivial
  rcases alt with ⟨ds, vs, e1, rfl, rvs, hz⟩ | ⟨_, _, e1, _⟩
  case inr => cases e1
  cases e1
  obtain ⟨l, l1, l2⟩ := others_own S i ρ.length
  have nq : ∀ p ∈ l, p.1 ≠ q := fun p hp' z => by
    obtain ⟨_, _, _, _, j, sv, ji, hj, ow, hs⟩ := l2 p hp'
    exact S.disj j i sv _ ji hj hi ow trivial (by rw [hs, hv, z])
  have gs := same_upd (o := HO.lst vs) hg
  have up : ∀ {a : Addr} {o : HO}, a ≠ q → upd G q (.lst vs) a = some o → G a = some o := fun n z => by rwa [upd_ne n] at z
  refine ⟨q, l, upd G q (.lst vs), gs, ⟨fun a o ha => ?_, S.same, S.store, S.ldist, fun a ha => ?_, S.lmem0, fun a ha => ?_, fun a ha => ?_, S.l0there, S.l0h, ?_, fun j sv hj => ?_, fun p hp' => ?_, fun j k x y _ hj _ ox => ?_⟩, fun {L' T' G' H'} lle gse S' => ?_⟩
  · by_cases n : a = q
    · subst n; rw [upd_same] at ha; cases ha; exact .inl hp
    · exact S.sub a o (up n ha)
  · rw [upd_ne (show a ≠ q from fun z => hl (z ▸ ha))]; exact S.lfree a ha
  · rw [upd_ne (show a ≠ q from fun z => S.nl0 h0 (z ▸ ha))]; exact S.l0free a ha
  · by_cases n : a = q
    · subst n; exact .inr h0
    · rw [upd_ne n] at ha; exact S.gnew a ha
  · unfold lookE; rw [List.length_set, List.length_map]; exact S.len
  · rcases look_get hj with ⟨rfl, rfl⟩ | ⟨ji, x, rfl, hx⟩
    · exact ⟨.ref q, hv, .lst upd_same (rvs.up (LE.refl _) gs) hz⟩
    · obtain ⟨v, k1, k2⟩ := S.slot j _ hx
      exact ⟨v, k1, k2.up (LE.refl _) gs⟩
  · have no : ∀ (j : Nat) (sv : SV), (lookE ρ i xs)[j]? = some (some sv) → Own sv → σ[j]? ≠ some (some (.ref p.1)) := fun j sv hj ow => by
      rcases look_get hj with ⟨_, rfl⟩ | ⟨_, x, rfl, _⟩ <;> exact ow.elim
    rcases List.mem_append.mp hp' with hp' | hp'
    · obtain ⟨k1, k2, k3, k4, _⟩ := l2 p hp'
      exact ⟨k1, by rw [upd_ne (nq p hp')]; exact k2, k3, S.nl0 k4, k4, no⟩
    · obtain ⟨k1, k2, k3, k4, k5, k6⟩ := S.xown p hp'
      have n : p.1 ≠ q := fun z => k6 i _ hi trivial (by rw [hv, z])
      exact ⟨k1, by rw [upd_ne n]; exact k2, k3, k4, k5, no⟩
  · rcases look_get hj with ⟨_, rfl⟩ | ⟨_, x, rfl, _⟩ <;> exact ox.elim
  · have gq : G' q = some (.lst vs) := gse _ _ upd_same
    have gs' : Same G (without G' q) := fun a o ha => by
      have n : a ≠ q := fun z => by rw [z, hg] at ha; cases ha
      rw [without_ne n]
      exact gse a o (by rw [upd_ne n]; exact ha)
    have sub' : ∀ a o, without G' q a = some o → G' a = some o := fun a o ha => by
      by_cases n : a = q
      · rw [n, without_eq] at ha; cases ha
      · rwa [without_ne n] at ha
    have hq' : H' q = some (.lst vs) := by
      rcases S'.sub q _ gq with z | ⟨z, _⟩
      · exact z
      · exact z.elim
    have lq : q ∉ L'.flatten := fun z => by
      have := S'.lfree q z
      rw [gq] at this; cases this
    have wo : ∀ {a : Addr}, G' a = none → without G' q a = none := fun {a} z => by
      unfold without; split
      · rfl
      · exact z
    refine ⟨gs', fun a o ha => S'.sub a o (sub' a o ha), S'.same, S'.store, S'.ldist, fun a ha => wo (S'.lfree a ha), S'.lmem0, fun a ha => wo (S'.l0free a ha), fun a ha => S'.gnew a fun z => ha (wo z), S'.l0there, S'.l0h, S.len, fun j sv hj => ?_, fun p hp' => ?_, S.disj⟩
    · obtain ⟨v, h1, h2⟩ := S.slot j sv hj
      refine ⟨v, h1, ?_⟩
      by_cases ji : j = i
      · subst ji
        rw [hi] at hj
        cases hj
        rw [hv] at h1
        cases h1
        exact ⟨q, vs, rfl, hq', rvs.up lle gs', hz, without_eq, lq, h0⟩
      · have inl : Own sv → ∃ p, σ[j]? = some (some (.ref p)) ∧ (∀ o, H p = some o → H' p = some o) ∧ without G' q p = none ∧ p ∉ L'.flatten := fun ow => by
          obtain ⟨p, pm, m1, m2⟩ := l1 j sv ((List.getElem?_eq_some_iff.mp hj).1) ji hj ow
          obtain ⟨k1, k2, k3, _⟩ := S'.xown p (List.mem_append_left _ pm)
          exact ⟨p.1, m1, fun o ho => by rw [m2] at ho; cases ho; exact k1, wo k2, k3⟩
        cases sv with
        | d x => exact h2.up lle gs'
        | ol ds =>
          obtain ⟨p, us, rfl, k2, k3, k4, k5, k6, k7⟩ := h2
          obtain ⟨p', m1, m2, m3, m4⟩ := inl trivial
          rw [h1] at m1
          cases m1
          exact ⟨p, us, rfl, m2 _ k2, k3.up lle gs', k4, m3, m4, k7⟩
        | od ks us =>
          obtain ⟨p, o2, rfl, k2, k3, k5, k6, k7⟩ := h2
          obtain ⟨p', m1, m2, m3, m4⟩ := inl trivial
          rw [h1] at m1
          cases m1
          exact ⟨p, o2, rfl, m2 _ k2, k3.mono lle gs', m3, m4, k7⟩
    · obtain ⟨k1, k2, k3, k4, k5, _⟩ := S'.xown p (List.mem_append_right _ hp')
      exact ⟨k1, wo k2, k3, k4, k5, (S.xown p hp').2.2.2.2.2⟩
end
section
variable {X : Cx} {c : Cfg} {W : WX} {k : Nat} {a : Expr} {fa : Ex} {ft : Tx}
theorem de_peek (i : Nat) (ha : PE X a (tD c W fa)) : PE X a (tD c W (dPeek i fa)) := ha.imp fun σ H Q ⟨e, L, T, G, ρ, S, p⟩ => by
  cases hx : ownL ρ i with
  | none => simp only [dPeek, hx] at p; exact ⟨e, L, T, G, ρ, S, p⟩
  | some xs =>
    simp only [dPeek, hx] at p
    obtain ⟨q, l, G1, g1, S1, out⟩ := peek_in S hx
    refine ⟨e.adds l, L, T, G1, lookE ρ i xs, S1, ?_⟩
    cases hr : fa (lookE ρ i xs) T with
    | bad => rw [bnd_bad hr] at p; exact p
    | exn k T' =>
      rw [bnd_exn hr] at p
      intro L' G' H' l1 gg S'
      obtain ⟨s1, s2⟩ := out l1 gg S'
      exact p L' _ H' l1 s1 s2
    | ok d T' =>
      rw [bnd_ok hr] at p
      by_cases z : isFlat d = true
      · rw [if_pos z] at p
        intro v L' G' H' l1 gg S' r
        obtain ⟨s1, s2⟩ := out l1 gg S'
        exact p v L' _ H' l1 s1 s2 (flat_rep r z)
      · rw [if_neg z] at p; exact p.bad
theorem dt_peek (i : Nat) (ha : PT X a (tT c W ft)) : PT X a (tT c W (tPeek i ft)) := ha.imp fun σ H Q ⟨e, L, T, G, ρ, S, p⟩ => by
  cases hx : ownL ρ i with
  | none => simp only [tPeek, hx] at p; exact ⟨e, L, T, G, ρ, S, p⟩
  | some xs =>
    simp only [tPeek, hx] at p
    obtain ⟨q, l, G1, g1, S1, out⟩ := peek_in S hx
    refine ⟨e.adds l, L, T, G1, lookE ρ i xs, S1, ?_⟩
    cases hr : ft (lookE ρ i xs) T with
    | bad => rw [hr] at p; exact p
    | exn k T' =>
      rw [hr] at p
      intro L' G' H' l1 gg S'
      obtain ⟨s1, s2⟩ := out l1 gg S'
      exact p L' _ H' l1 s1 s2
    | ok b T' =>
      rw [hr] at p
      intro v L' G' H' l1 gg S' r
      obtain ⟨s1, s2⟩ := out l1 gg S'
      exact p v L' _ H' l1 s1 s2 r
end
end WW
set_option maxHeartbeats 2000000
namespace WW
open PySem PySem.Spec PyProof.Rows L2
def lstsOf : List D → Option (List (List Int))
  | [] => some []
  | .lst xs :: r => match intsOf xs, lstsOf r with
    | some ns, some t => some (ns :: t)
    | _, _ => none
  | _ => none
def minA : D → M D
  | .dct ks _ => (match intsOf ks with
    | some ns => (match minI ns with | some m => M.ret (.int m) | none => M.fail)
    | none => M.fail)
  | x => minM x
/-- the key of a row of liars: how many, then the row -/
def kRow (xs : List Int) : List Int := (xs.length : Int) :: xs
def ksort (xs : List (List Int)) : List (List Int) := isrt (fun a b => lexLe (kRow a) (kRow b)) xs
def sortKeyM : D → M (List D)
  | .lst xs => (match tupsOf xs with
    | some t => M.ret ((ksort t).map tupI)
    | none => M.fail)
  | _ => M.fail
/-- each once -/
def onceI (ns : List Int) : List Int := ns.foldl (fun acc x => if x ∈ acc then acc else acc ++ [x]) []
def sortSetM : D → M (List D)
  | .lst xs => (match intsOf xs with
    | some ns => if ns.length < 63 then M.ret ((isort (onceI ns)).map .int) else M.fail
    | none => M.fail)
  | _ => M.fail
def insAt (xs : List D) (i : Nat) (d : D) : List D := xs.take i ++ d :: xs.drop i
def sIns (i : Nat) (f g : Ex) : Sx := fun ρ => match ρ[i]? with
  | some (some (.ol ds)) => f ρ >>= fun k => g ρ >>= fun d => (match k with
    | .int n => if 0 ≤ n ∧ n ≤ ds.length ∧ ds.length < sizeLine then M.ret (.nx (ρ.set i (some (.ol (insAt ds n.toNat d))))) else M.fail
    | _ => M.fail)
  | _ => M.fail
def sPopL (i : Nat) (f : Ex) : Sx := fun ρ => match ρ[i]? with
  | some (some (.ol ds)) => f ρ >>= fun k => (match k with
    | .int n => if 0 ≤ n ∧ n < ds.length then M.ret (.nx (ρ.set i (some (.ol (ds.eraseIdx n.toNat))))) else M.fail
    | _ => M.fail)
  | _ => M.fail
end WW
set_option maxHeartbeats 4000000
namespace WW
open PySem PySem.Spec PyProof.Rows L2
section
variable {X : Cx} {pins : List (Addr × Obj)} {σ : L2.St} {H : Hp} {s : Shared}
theorem min_dict {P : Program} {w : World} {A : Around} {E Q : Value → Shared → Prop} {d : Addr} {us : List Value} {ns : List Int} (hh : A.handled = none) (hm : DKeys s.heap d us) (hi : IntsAre us ns) (hne : 0 < ns.length)
    (h : ∀ h' tk m t', (∀ b o, s.heap.get? b = some o → h'.get? b = some o) → m ∈ ns → (∀ a, a ∈ ns → m ≤ a) → Q (.int m t') { s with heap := h', toks := tk }) : wpAny (model P w) A (call (.builtin "min") [.ref d]) Q E s := by
  obtain ⟨es, ep, raw, rfl, lo⟩ := hm
  have hlen : es.size = ns.length := by
    have := hi.length
    rw [List.length_map, Array.length_toList] at this
    exact this
  refine call_min_walk ?_
  have hne' : d ≠ s.heap.objs.size := Nat.ne_of_lt raw.lt_size
  refine wpAny_pyIter_dict_raw lo raw ⟨_, _, _, _, _, _, _, rfl, Walks.rawKeys (by simp [hh]) _ d hne' es ep, ⟨⟨_, Heap.get?_push_size _ rfl, rfl, rfl⟩, raw.push _⟩, fun b hb => ?_, by omega, CmpOf.ints_lt (fun i => ns.getD i 0) fun i v ⟨lt, e⟩ => ?_, fun v h' tk ⟨lt, e⟩ hk => ?_⟩
  · rw [Heap.size_push]
    simp only [List.mem_cons, List.not_mem_nil, or_false] at hb
    rcases hb with rfl | rfl
    · exact Nat.lt_succ_self _
    · exact Nat.lt_succ_of_lt raw.lt_size
  · subst e
    obtain ⟨t, e2⟩ := PyProof.Rows.IntsAre.int_at hi i es[i].key (by rw [List.getElem?_map, Array.getElem?_toList, Array.getElem?_eq_getElem lt]; rfl)
    exact ⟨t, e2⟩
  · subst e
    generalize hb : argBest (fun i j => decide (ns.getD i 0 < ns.getD j 0)) (es.size - 1) = b at lt
    have ab := argBest_lt (fun i => ns.getD i 0) (es.size - 1)
    rw [hb] at ab
    obtain ⟨h1, h2⟩ := ab
    obtain ⟨t, e2⟩ := PyProof.Rows.IntsAre.int_at hi b es[b].key (by rw [List.getElem?_map, Array.getElem?_toList, Array.getElem?_eq_getElem lt]; rfl)
    rw [e2]
    refine h h' tk _ t (fun q o e => ?_) ?_ fun a ha => ?_
    · have lq := Heap.lt_size e
      exact hk q o (by simp only [List.mem_cons, List.not_mem_nil, or_false]; exact Nat.ne_of_lt lq) (Heap.get?_push_of_some _ e)
    · rw [List.getD_eq_getElem?_getD, List.getElem?_eq_getElem (by omega)]
      exact List.getElem_mem _
    · obtain ⟨j, hj, rfl⟩ := PySem.mem_getD ha
      exact h2 j (by omega)
end
def rMinD (P : Program) (w : World) : List V → Hp → VK → Prop := fun vs H Q => ∃ (a : Addr) (ns : List Int), vs = [V.ref a] ∧ DItems P w H a (ns.map V.int) ∧ 0 < ns.length ∧ ∀ m, m ∈ ns → (∀ y, y ∈ ns → m ≤ y) → Q (.int m) H
theorem cr_minD {X : Cx} (hc : X.calm = true) : CallR X (.builtin "min") (rMinD X.prog X.w) := by
  intro pins s σ H vs us Q I r h
  obtain ⟨a, ns, rfl, hs, hne, q⟩ := h
  obtain ⟨its, hk, rv, hz⟩ := ditems I hs
  rw [Vals.ref1 r]
  exact min_dict (I.ok.hd hc) hk rv.ints hne fun h' tk m t' hk h1 h2 => ⟨.int _, H, I.kept hk, ⟨_, rfl⟩, q m h1 h2⟩
theorem min_fold {x m : Int} {xs : List Int} (h1 : m ∈ x :: xs) (h2 : ∀ y ∈ x :: xs, m ≤ y) : xs.foldl min x = m := by
  obtain ⟨k1, k2, k3⟩ := foldl_min xs x
  have a1 : m ≤ xs.foldl min x := h2 _ (by rcases k3 with k | k <;> simp [k])
  have a2 : xs.foldl min x ≤ m := by
    rcases List.mem_cons.mp h1 with rfl | h1
    · exact k1
    · exact k2 _ h1
  omega
theorem cd_minA {c : Cfg} : CallD c (fun vs H Q => rMin c.K vs H Q ∨ rMinD c.P c.w vs H Q) (F1 minA) := by
  intro e W L T G H σ ρ vs ds Q S r p
  cases r with
  | nil => exact p.bad
  | @cons v _ d _ r1 r2 =>
    cases r2 with
    | cons _ _ => exact p.bad
    | nil =>
      cases d with
      | dct ks vs' =>
        simp only [F1, minA] at p
        cases q : intsOf ks with
        | none => rw [q] at p; exact p.bad
        | some ns =>
          rw [q] at p
          have e1 := intsOf_some q
          subst e1
          obtain ⟨a, xs, rfl, hd, hr⟩ := rep_ditems S.subS r1
          rw [hr.ints] at hd
          cases ns with
          | nil => exact p.bad
          | cons x xs =>
            refine .inr ⟨a, x :: xs, rfl, hd, by simp, fun m hm hy => ?_⟩
            have q2 := p.val S (.int _)
            rw [min_fold hm hy] at q2
            exact q2
      | _ => exact .inl (cd_min e W L T G H σ ρ [v] [_] Q S (.cons r1 .nil) p)
section
variable {X : Cx} {c : Cfg} {W : WX} {k : Nat} {a : Expr} {fa : Ex} {pos p : Pos}
theorem de_minA (h : Ctx X c W k) (ha : PE X a (tD c W fa)) (ns : NS a := by intro _ _; rfl) (hg : Gl X "min" := by rfl) : PE X (.Call (.Name "min" p) [a] [] pos) (tD c W (dCall (F1 minA) [fa])) := by
  refine (pe_callB (CallR.orr (cr_min h.calm) (cr_minD h.calm)) hg h.bl.min (by decide +kernel) (da_cons ha da_nil (ns _ _)) (he := ns _ _)).imp fun σ H Q q => ?_
  rw [h.hK, h.hP, h.hw]
  exact call_end cd_minA q
end
end WW
set_option maxHeartbeats 4000000
namespace WW
open PySem PySem.Spec PyProof.Rows L2
/-- a set as it is made, empty -/
abbrev freshSet (w : World) : Obj := { cls := .type "set", dict := none, data := .set #[] 0 (.fresh 0 0 (!w.params.followText "set-order")) }
abbrev made (w : World) (h : Heap) : Heap := h.push (freshSet w)
section
variable {P : Program} {w : World} {A : Around} {E : Value → Shared → Prop} {s : Shared}
/-- what set.__init__ leaves -/
def Filled (w : World) (s : Shared) (ns : List Int) (s₂ : Shared) : Prop := ∃ h' tk c, s₂ = { s with heap := h', toks := tk } ∧ SetR w h' s.heap.objs.size (fun j => decide (j ∈ ns)) c ∧ c ≤ ns.length ∧ ∀ b o, s.heap.get? b = some o → h'.get? b = some o
theorem set_init_list {l : Addr} {items : Array Value} {ns : List Int} (hh : A.handled = none) (hl : s.heap.IsList l items) (hit : IntsAre items.toList ns) (hb : ns.length + 1 < scanBound) :
    codeAny (model P w) A (.call (.builtin "set.__init__") ⟨[.ref s.heap.objs.size, .ref l], []⟩) (wants (fun r s₂ => r = .none ∧ Filled w s ns s₂) E) { s with heap := made w s.heap } := by
  have made_at : (made w s.heap).get? s.heap.objs.size = some (freshSet w) := Heap.get?_push_size _ rfl
  have typed : Shared.TypeIs { s with heap := made w s.heap } (.ref s.heap.objs.size) "set" := ⟨_, made_at, rfl⟩
  have count : items.size = ns.length := by
    have := hit.length
    rwa [Array.length_toList] at this
  have there : (made w s.heap).IsList l items := hl.push _
  have lt : l < s.heap.objs.size := let ⟨_, ho, _⟩ := hl; Heap.lt_size ho
  have size1 : (made w s.heap).objs.size = s.heap.objs.size + 1 := Heap.size_push ..
  refine codeAny_call_builtin F.called_set.init.plain F.entry_set_init (PySem.check_set_init_1 typed ?_)
  obtain ⟨ol, hol, hcl, nl, hdl⟩ := hl
  obtain ⟨ocls, odict, odata, oslots⟩ := ol
  simp only at hcl hdl
  subst hcl; subst hdl
  have seen : (made w s.heap).get? l = some { cls := .type "list", dict := odict, data := .seq items nl, slots := oslots } := Heap.get?_push_of_some _ hol
  have no1 := F.sub_list_set
  have no2 := F.sub_list_frozenset
  have no3 : (Value.type "list" == Value.type "dict") = false := by decide
  unfold Builtin.«set.__init__» noKeywords Builtin.Frozenset.updateFrom
  generalize hPI : pyIter = PI
  wp_walk
  subst hPI
  refine wpAny_pyIter_list there ?_
  refine wpAny_bind (wpAny_runValue ?_)
  have off : s.heap.objs.size ∉ [(made w s.heap).objs.size, l] := by
    rw [size1]
    simp only [List.mem_cons, List.not_mem_nil, or_false, not_or]
    exact ⟨Nat.ne_of_lt (Nat.lt_succ_self _), Nat.ne_of_gt lt⟩
  refine set_update_ints ((Walks.list (by simp [hh]) _ l (by rw [size1]; exact Nat.ne_of_lt (Nat.lt_succ_of_lt lt)) items).toS) s.heap.objs.size off ns count hb (fun i v hv => ?_) (items.size - 0) 0 _ (by omega) (Nat.zero_le _)
    ⟨⟨_, Heap.get?_push_size _ rfl, rfl, rfl⟩, there.push _⟩ ⟨0, Nat.le_refl 0, setR_new_at (Heap.get?_push_of_some _ made_at)⟩ fun s' c m hc R' => ?_
  · have hi : i < ns.length := by rw [← count]; exact (Array.getElem?_eq_some_iff.mp hv).1
    obtain ⟨t, e⟩ := PyProof.Rows.IntsAre.int_at hit i v (by rw [Array.getElem?_toList]; exact hv)
    refine ⟨ns[i], t, List.getElem?_eq_getElem hi, ?_⟩
    rw [e, List.getD_eq_getElem?_getD, List.getElem?_eq_getElem hi]
    rfl
  · obtain ⟨h', g', d', tk', os'⟩ := s'
    have e1 : g' = s.gens := m.gens
    have e2 : d' = s.drawn := m.drawn
    have e3 : os' = s.os := m.os
    subst e1; subst e2; subst e3
    show wpAny _ _ _ _ _ _
    refine wpAny_pure ?_
    show wpAny _ _ (ret Value.none) _ _ _
    rw [count] at hc
    refine wpAny_pure ⟨rfl, h', tk', c, rfl, R', hc, fun b o e => ?_⟩
    have b0 := Heap.lt_size e
    refine m.heap b o ?_ (Heap.get?_push_of_some _ (Heap.get?_push_of_some _ e))
    rw [size1]
    simp only [List.mem_cons, List.not_mem_nil, or_false, not_or]
    exact ⟨Nat.ne_of_lt b0, Nat.ne_of_lt (Nat.lt_succ_of_lt b0)⟩
theorem call_set_ints {l : Addr} {items : Array Value} {ns : List Int} {Q : Value → Shared → Prop} (hh : A.handled = none) (hl : s.heap.IsList l items) (hit : IntsAre items.toList ns) (hb : ns.length + 1 < scanBound)
    (h : ∀ s₂, Filled w s ns s₂ → Q (.ref s.heap.objs.size) s₂) : wpAny (model P w) A (call (.type "set") [.ref l]) Q E s := by
  obtain ⟨_, _, line⟩ := F.called_set.mro
  have q1 := F.called_set.made
  have q2 := F.called_set.sub
  have q3 := F.called_set.notType
  have q4 := F.called_set.canCreate
  have q5 := F.typeCall_set_1 (.ref l)
  refine wpAny_call (codeAny_of_tree ?_)
  show wpAny _ _ (callAny (.type "set") _) _ _ _
  refine wpAny_pure ⟨Code.quiet_builtin _ (by decide +kernel), codeAny_builtin F.entry_type_call ?_⟩
  rw [Around.under_plain (weight_type_call_type "set" [.ref l] []) rfl]
  repeat (any_goals (first | assumption | wp_step))
  refine codeAny_mono (code_set_led1 (.ref l) (E := E) (Q₁ := fun v s₂ => v = .ref s.heap.objs.size ∧ s₂ = { s with heap := made w s.heap }) ⟨rfl, rfl⟩) fun r s₂ hr => ?_
  rcases r with e | fl
  · exact hr
  rcases fl with v | _ <;> try exact hr.elim
  obtain ⟨rfl, rfl⟩ := hr
  have made_at : (made w s.heap).get? s.heap.objs.size = some (freshSet w) := Heap.get?_push_size _ rfl
  have typed : Shared.TypeIs { s with heap := made w s.heap } (.ref s.heap.objs.size) "set" := ⟨_, made_at, rfl⟩
  have q6 := F.called_set.init.lookup
  have q7 := F.called_set.init.bind (.ref s.heap.objs.size)
  repeat (any_goals (first | assumption | wp_step))
  refine codeAny_mono (set_init_list (E := E) (by simp [hh]) hl hit hb) fun r s₂ hr => ?_
  rcases r with e | fl
  · exact hr
  rcases fl with v | _ <;> try exact hr.elim
  obtain ⟨rfl, f⟩ := hr
  repeat (any_goals (first | assumption | wp_step))
  exact h _ f
end
/-- set(xs), xs a list of ints -/
def rSetL (K : PySem.W.Frag) (w : World) : List V → Hp → VK → Prop := fun vs H Q => ∃ (a : Addr) (ns : List Int), vs = [V.ref a] ∧ SqL K H a (ns.map V.int) ∧ ns.length + 1 < scanBound ∧ ∀ (p : Addr) (c : Nat), c ≤ ns.length → H p = none → Q (.ref p) (upd H p (SetO w p (fun j => decide (j ∈ ns)) c))
theorem cr_setL {X : Cx} (hc : X.calm = true) : CallR X (.type "set") (rSetL X.K X.w) := by
  intro pins s σ H vs us Q I r h
  obtain ⟨a, ns, rfl, hs, hb, q⟩ := h
  obtain ⟨its, rv, hl, _⟩ := I.list hs
  rw [Vals.ref1 r]
  refine call_set_ints (I.ok.hd hc) hl.isList rv.ints hb fun s₂ ⟨h', tk, c, e, R, hc, hk⟩ => ?_
  subst e
  exact ⟨.ref _, upd H s.heap.objs.size (SetO X.w s.heap.objs.size (fun j => decide (j ∈ ns)) c), I.laid (t' := tk) hk (Nat.le_refl _) (setO_new R), rfl, q _ c hc (I.hok.fresh (Nat.le_refl _))⟩
theorem once_acc : ∀ (ns acc : List Int), acc.Nodup → (ns.foldl (fun acc x => if x ∈ acc then acc else acc ++ [x]) acc).Nodup ∧ ∀ k, k ∈ ns.foldl (fun acc x => if x ∈ acc then acc else acc ++ [x]) acc ↔ k ∈ acc ∨ k ∈ ns
  | [], acc, h => ⟨h, fun k => by simp⟩
  | x :: ns, acc, h => by
    rw [List.foldl_cons]
    by_cases e : x ∈ acc
    · rw [if_pos e]
      obtain ⟨h1, h2⟩ := once_acc ns acc h
      refine ⟨h1, fun k => ?_⟩
      rw [h2, List.mem_cons]
      exact ⟨fun z => z.imp id .inr, fun z => z.elim .inl fun z => z.elim (fun z => .inl (by rw [z]; exact e)) .inr⟩
    · rw [if_neg e]
      obtain ⟨h1, h2⟩ := once_acc ns (acc ++ [x]) (List.nodup_append.mpr ⟨h, by simp, fun a ha b hb z => by simp at hb; rw [hb] at z; rw [z] at ha; exact e ha⟩)
      refine ⟨h1, fun k => ?_⟩
      rw [h2, List.mem_append, List.mem_singleton, List.mem_cons, or_assoc]
theorem sorted_once {ns ms : List Int} (h1 : ms.Pairwise (· < ·)) (h2 : ∀ k : Int, k ∈ ms ↔ decide (k ∈ ns) = true) : ms = isort (onceI ns) := by
  refine sorted_uniq ?_ (h1.imp fun {a b} h => by omega) (isort_sorted _)
  have n1 : ms.Nodup := h1.imp fun {a b} h e => by omega
  obtain ⟨q1, q2⟩ := once_acc ns [] (by simp)
  refine ((List.perm_ext_iff_of_nodup n1 q1).mpr fun a => ?_).trans (isort_perm _).symm
  rw [h2, decide_eq_true_eq, q2]
  simp
theorem co_sortSet {c : Cfg} : CallO c (fun vs H Q => rSetL c.K c.w vs H fun v H2 => rSortedSet c.w [v] H2 Q) (F1 sortSetM) := by
  intro e W L T G H σ ρ vs ds Q S r p
  cases r with
  | nil => exact False.elim p
  | cons r1 r2 =>
    cases r2 with
    | cons _ _ => exact False.elim p
    | nil =>
      cases r1 with
      | @lst a xs ds h1 h2 h3 =>
        simp only [F1, sortSetM] at p
        cases q : intsOf ds with
        | none => rw [q] at p; exact False.elim p
        | some ns =>
          rw [q] at p
          have e1 := intsOf_some q
          subst e1
          rw [h2.ints] at h1
          simp only at p
          by_cases z : ns.length < 63
          · rw [if_pos z] at p
            refine ⟨a, ns, rfl, .of (S.subS.lst h1), Nat.lt_of_lt_of_le (show ns.length + 1 < 64 by omega) (by decide), fun b n hn hb => ⟨b, _, n, rfl, upd_same, by omega, fun ms x hs hm hl hx => ?_⟩⟩
            have S1 := S.grow (o := SetO c.w b (fun j => decide (j ∈ ns)) n) hb
            have e2 := sorted_once hs hm
            rw [← e2] at p
            have ml : (ms.map D.int).length ≤ sizeLine := by rw [List.length_map, hl]; exact Nat.le_trans (show n ≤ 64 by omega) (by decide)
            exact PostO.newO p S1 (repL_ints ms) ml x hx
          · rw [if_neg z] at p; exact False.elim p
      | _ => exact False.elim p
section
variable {X : Cx} {c : Cfg} {W : WX} {k : Nat} {a : Expr} {fa : Ex} {pos pos' p p' : Pos}
theorem do_sortSet (h : Ctx X c W k) (ha : PE X a (tD c W fa)) (ns : NS a := by intro _ _; rfl) (hs : starEach [.Call (.Name "set" p') [a] [] pos'] X.env = (false, eval (.Call (.Name "set" p') [a] [] pos') X.env) :: starEach [] X.env := by rfl) (hg : Gl X "sorted" := by rfl) (hg2 : Gl X "set" := by rfl) : PE X (.Call (.Name "sorted" p) [.Call (.Name "set" p') [a] [] pos'] [] pos) (tO c W (oCall (F1 sortSetM) [fa])) := by
  have i1 : PE X (.Call (.Name "set" p') [a] [] pos') (tCB (rSetL X.K X.w) (tL c W (dArgs [fa]))) := pe_callTy (cr_setL h.calm) hg2 h.bl.set (by decide +kernel) (da_cons ha da_nil (ns _ _)) (he := ns _ _)
  have i2 : PE X (.Call (.Name "sorted" p) [.Call (.Name "set" p') [a] [] pos'] [] pos) (tCB (rSortedSet X.w) (tCons (tCB (rSetL X.K X.w) (tL c W (dArgs [fa]))) tNil)) := pe_callB (cr_sortedSet h.calm) hg h.bl.sorted (by decide +kernel) (pa_cons i1 pa_nil hs) (he := hs)
  refine i2.imp fun σ H Q q => ?_
  rw [h.hK, h.hw]
  exact callo_end co_sortSet q
end
end WW
set_option maxHeartbeats 2000000
namespace WW
open PySem PySem.Spec PyProof.Rows L2
def tpM (x : D) : M D := match x with
  | .int n => lrgM 0 n >>= fun xs => M.ret (.tup xs)
  | _ => M.fail
def dTRg1 (f : Ex) : Ex := fun ρ => f ρ >>= tpM
section
variable {X : Cx} {c : Cfg} {W : WX} {k : Nat} {a b : Expr} {fa fb : Ex} {pos p p1 pos1 : Pos}
theorem de_tupRg1 (h : Ctx X c W k) (ha : PE X a (tD c W fa)) (ns : NS a := by intro _ _; rfl) (hg : Gl X "range" := by rfl) (hg2 : Gl X "tuple" := by rfl) (na : starEach [.Call (.Name "range" p1) [a] [] pos1] X.env = (false, eval (.Call (.Name "range" p1) [a] [] pos1) X.env) :: starEach [] X.env := by rfl) :
    PE X (.Call (.Name "tuple" p) [.Call (.Name "range" p1) [a] [] pos1] [] pos) (tD c W (dTRg1 fa)) := (pe_tupRg h.calm hg2 h.bl.tuple (prg_1 hg h.bl.range ha (ns _ _)) na).imp fun σ H Q q => (tG.one (R1 := Rep c) (f := fa) (k := fun d _ => tpM d) q).mono fun v H1 q1 => by
  obtain ⟨e, L, T, G, ρ, d, S, r, p⟩ := q1
  cases r with
  | int n =>
    simp only [tpM, lrgM] at p
    by_cases z : rgOk 0 n = true
    · rw [if_pos z] at p
      simp only [ret_bind] at p
      have zz := rgOk_ok z
      refine ⟨n, rfl, zz, fun q hq => p.newT S (rgD_rep 0 n) ?_ q hq⟩
      simp only [rgD, List.length_map, List.length_range]
      have := zz.2.2.2.2
      rw [sizeLine_eq]; omega
    · rw [if_neg z] at p; exact p.bad
  | _ => exact p.bad
end
def sParLL (i j : Nat) : Sx := fun ρ => M.ret (.nx ((ρ.set i (some (.ol []))).set j (some (.ol []))))
section
variable {X : Cx} {c : Cfg} {W : WX} {k : Nat} {x y : Str} {pos px py pt pt2 p1 p2 : Pos} {kt k2 : Nat}
theorem ds_parLL (i j : Nat) (h : Ctx X c W k) (hi : X.N[i]? = some x := by rfl) (hj : X.N[j]? = some y := by rfl) (hij : i ≠ j := by decide)
    (hx : X.env.scope.names.lookup x = some .local := by rfl) (hy : X.env.scope.names.lookup y = some .local := by rfl)
    (hw : swappedStores [.Tuple [.Name x px, .Name y py] kt pt] (.Tuple [.List [] p1, .List [] p2] k2 pt2) X.env = pure (some [x, y]) := by rfl)
    (hs : swapsWithSole [.Tuple [.Name x px, .Name y py] kt pt] (.Tuple [.List [] p1, .List [] p2] k2 pt2) pos.line X.env = pure false := by rfl) :
    PS X (.Assign [.Tuple [.Name x px, .Name y py] kt pt] (.Tuple [.List [] p1, .List [] p2] k2 pt2) pos) (tS c W (sParLL i j)) := by
  refine (ps_par h.calm h.nd hi hj hij hx hy (pa_cons (pe_lst pa_nil) (pa_cons (pe_lst pa_nil) pa_nil)) hw hs).imp fun D σ H q => ?_
  obtain ⟨e, L, T, G, ρ, S, p⟩ := q
  refine ⟨Nat.zero_le _, fun a ha => ⟨Nat.zero_le _, fun b hb => ⟨_, _, rfl, ?_⟩⟩⟩
  have S1 := (S.grow (o := .lst []) ha).putO (i := i) (S.fresh ha .nil (Nat.zero_le _))
  have S2 := (S1.grow (o := .lst []) hb).putO (i := j) (S1.fresh hb .nil (Nat.zero_le _))
  exact p L G _ _ (LE.refl _) (Same.refl _) S2
end
end WW
set_option maxHeartbeats 2000000
namespace WW
open PySem PySem.Spec PyProof.Rows L2
section
variable {X : Cx} {CX : CXT} {k : Nat} {f : Addr} {fd : FuncData} {ps : List Str} {sp : Sp} {E : L2.St → XK} {x : Str} {p pos : Pos}
theorem pe_callS0 (F : FnOk X.prog X.w X.K X.mg X.base CX k f fd ps sp) (hr : Room k X.A) (hg : Gl X x) (hm : X.mg x = some (.ref f)) (hk : PySem.W.keepIn X.K (.ref f) = true) (hb : Binds X.K fd ps []) (hx : ∀ σ, PassesAt CX X σ (E σ))
    (hdb : (x == ("__debug__" : Str)) = false := by decide) : PE X (.Call (.Name x p) [] [] pos) (tCallS sp E tNil) := by
  refine ⟨fun pins s σ H Q I h => ?_⟩
  refine wpAny_Call_Name_kw (ld_glob I hg hm ?_ hdb)
  exact PySem.W.callWith_K0 I.kIn hk (run_fnS (us := []) F hr hb (hx σ) I .nil h)
end
section
variable {X : Cx} {c : Cfg} {W : WX} {k j : Nat} {pos p : Pos} {x : Str} {F : List D → M D}
theorem de_fn0 (h : Ctx X c W k) (C : Fn c X.mg X.base x [] j F) (hj : j ≤ k := by decide) (hg : Gl X x := by rfl) (hdb : (x == ("__debug__" : Str)) = false := by decide) :
    PE X (.Call (.Name x p) [] [] pos) (tD c W (dCall F [])) := by
  obtain ⟨f, fd, h1, h2, h3, h4⟩ := C.ex
  have h4' : FnOk X.prog X.w X.K X.mg X.base (L2.CX X.prog X.w) j f fd [] (spF c 0 F) := by rw [h.hP, h.hw, h.hK]; exact h4
  have h3' : Binds X.K fd [] [] := by rw [h.hK]; exact h3
  have h2' : PySem.W.keepIn X.K (.ref f) = true := by rw [h.hK]; exact h2
  refine (pe_callS0 h4' (h.room.mono hj) hg h1 h2' h3' (fun σ => passAt h.tk σ) hdb).imp fun σ H Q q => ?_
  have z := fn_end (fs := []) (ps := []) rfl q (dArgs_length [])
  obtain ⟨e, L, T, G, ρ, S, p⟩ := z
  exact p [] L G H (LE.refl _) (Same.refl _) S .nil
end
end WW
set_option maxHeartbeats 2000000
namespace WW
open PySem PySem.Spec PyProof.Rows L2
def dFail : Ex := fun _ => M.fail
def sFail : Sx := fun _ => M.fail
section
variable {X : Cx} {c : Cfg} {W : WX} {e : Expr} {st : Stmt}
theorem de_fail : PE X e (tD c W dFail) := ⟨fun pins s σ H Q I h => by
  obtain ⟨_, _, _, _, _, _, p⟩ := h
  exact p.elim⟩
theorem ds_fail : PS X st (tS c W sFail) := ⟨fun pins s σ H D I h => by
  obtain ⟨_, _, _, _, _, _, p⟩ := h
  exact p.elim⟩
end
end WW
set_option maxHeartbeats 2000000
namespace WW
open PySem PySem.Spec PyProof.Rows L2
mutual
def noL : D → Bool
  | .non => true
  | .bl _ => true
  | .int _ => true
  | .str _ => true
  | .cell _ => true
  | .tup xs => noLs xs
  | _ => false
def noLs : List D → Bool
  | [] => true
  | d :: ds => noL d && noLs ds
end
/-- the tuples alone -/
def tupG (G : Hp) : Hp := fun a => match G a with
  | some (.tup xs) => some (.tup xs)
  | some (.frz o (.tup xs)) => some (.frz o (.tup xs))
  | _ => none
theorem tupG_sub {G : Hp} {a : Addr} {o : HO} (h : tupG G a = some o) : G a = some o ∧ ((∃ xs, o = .tup xs) ∨ ∃ ob xs, o = .frz ob (.tup xs)) := by
  unfold tupG at h
  split at h
  · rename_i xs q; cases h; exact ⟨q, .inl ⟨xs, rfl⟩⟩
  · rename_i ob xs q; cases h; exact ⟨q, .inr ⟨ob, xs, rfl⟩⟩
  · cases h
theorem tupG_sqT {K : PySem.W.Frag} {G : Hp} {a : Addr} {xs : List V} (h : SqT K G a xs) : SqT K (tupG G) a xs := by
  rcases h with (h | ⟨o, h⟩) | h
  · exact .inl (.inl (by unfold tupG; rw [h]))
  · exact .inl (.inr ⟨o, by unfold tupG; rw [h]⟩)
  · exact .inr h
section
variable {c : Cfg} {L : List (List Addr)} {G : Hp}
mutual
theorem rep_tupG : ∀ (d : D) (v : V), noL d = true → Rep c L G v d → Rep c L (tupG G) v d
  | .non, _, _, h => by cases h; exact .non
  | .bl _, _, _, h => by cases h; exact .bl _
  | .int _, _, _, h => by cases h; exact .int _
  | .str _, _, _, h => by
    cases h with
    | str _ h1 => exact .str _ h1
  | .cell _, _, _, h => by
    cases h with
    | cell h1 => exact .cell h1
  | .tup ds, _, k, h => by
    cases h with
    | tup h1 h2 h3 => exact .tup (tupG_sqT h1) (repL_tupG ds _ k h2) h3
  | .lst _, _, k, _ => by simp [noL] at k
  | .dct _ _, _, k, _ => by simp [noL] at k
  | .exc _, _, k, _ => by simp [noL] at k
theorem repL_tupG : ∀ (ds : List D) (vs : List V), noLs ds = true → RepL c L G vs ds → RepL c L (tupG G) vs ds
  | [], _, _, h => by cases h; exact .nil
  | d :: ds, _, k, h => by
    cases h with
    | cons h1 h2 =>
      simp only [noLs, Bool.and_eq_true] at k
      exact .cons (rep_tupG d _ k.1 h1) (repL_tupG ds _ k.2 h2)
end
/-- what one address says -/
structure TI (K : PySem.W.Frag) (H : Hp) : Prop where
  tt : ∀ (a : Addr) (xs ys : List V), SqT K H a xs → SqT K H a ys → xs = ys
  lt : ∀ (a : Addr) (xs ys : List V), SqL K H a xs → SqT K H a ys → False
mutual
/-- plain data is told by its value -/
theorem rep_uniq {H : Hp} (s : Sub G H) (ti : TI c.K H) (lf : ∀ a ∈ L.flatten, G a = none) : ∀ (d : D) (v : V) (n : Nat) (d' : D) (m : Nat), okD d n = true → okD d' m = true → Rep c L G v d → Rep c L G v d' → d = d'
  | .non, _, _, d', _, _, k', h, h' => by cases h; cases h'; rfl
  | .bl _, _, _, d', _, _, k', h, h' => by cases h; cases h'; rfl
  | .int _, _, _, d', _, _, k', h, h' => by cases h; cases h'; rfl
  | .str _, _, _, d', _, _, k', h, h' => by
    cases h with
    | str _ _ => cases h'; rfl
  | .lst ds, _, n, d', m, k, k', h, h' => by
    cases h with
    | lst h1 h2 h3 =>
      cases h' with
      | lst g1 g2 g3 =>
        rw [h1] at g1
        cases g1
        cases n with
        | zero => simp [okD] at k
        | succ n =>
          cases m with
          | zero => simp [okD] at k'
          | succ m =>
            simp only [okD] at k k'
            rw [repL_uniq s ti lf ds _ n _ m k k' h2 g2]
      | tup g1 _ _ => exact (ti.lt _ _ _ (.of (s.lst h1)) (s.sqT g1)).elim
      | dk g1 _ _ _ => simp [okD] at k'
      | dn g1 _ _ _ _ _ => simp [okD] at k'
      | exc g1 => simp [okD] at k'
      | cell g1 => simp [okD] at k'
  | .tup ds, _, n, d', m, k, k', h, h' => by
    cases h with
    | tup h1 h2 h3 =>
      cases h' with
      | lst g1 g2 g3 => exact (ti.lt _ _ _ (.of (s.lst g1)) (s.sqT h1)).elim
      | tup g1 g2 g3 =>
        have e := ti.tt _ _ _ (s.sqT h1) (s.sqT g1)
        subst e
        cases n with
        | zero => simp [okD] at k
        | succ n =>
          cases m with
          | zero => simp [okD] at k'
          | succ m =>
            simp only [okD] at k k'
            rw [repL_uniq s ti lf ds _ n _ m k k' h2 g2]
      | dk g1 _ _ _ => simp [okD] at k'
      | dn g1 _ _ _ _ _ => simp [okD] at k'
      | exc g1 => simp [okD] at k'
      | cell g1 => simp [okD] at k'
  | .dct _ _, _, _, _, _, k, _, _, _ => by simp [okD] at k
  | .exc _, _, _, _, _, k, _, _, _ => by simp [okD] at k
  | .cell _, _, _, _, _, k, _, _, _ => by simp [okD] at k
theorem repL_uniq {H : Hp} (s : Sub G H) (ti : TI c.K H) (lf : ∀ a ∈ L.flatten, G a = none) : ∀ (ds : List D) (vs : List V) (n : Nat) (ds' : List D) (m : Nat), okDs ds n = true → okDs ds' m = true → RepL c L G vs ds → RepL c L G vs ds' → ds = ds'
  | [], _, _, ds', _, _, _, h, h' => by cases h; cases h'; rfl
  | d :: ds, _, n, ds', m, k, k', h, h' => by
    cases h with
    | cons h1 h2 =>
      cases h' with
      | cons g1 g2 =>
        simp only [okDs, Bool.and_eq_true] at k k'
        rw [rep_uniq s ti lf d _ n _ m k.1 k'.1 h1 g1, repL_uniq s ti lf ds _ n _ m k.2 k'.2 h2 g2]
end
mutual
def sz : D → Nat
  | .lst xs => szs xs + 1
  | .tup xs => szs xs + 1
  | _ => 0
def szs : List D → Nat
  | [] => 0
  | d :: ds => sz d + szs ds
end
mutual
theorem rep_without {p : Addr} {N : Nat} (hp : ∀ (d : D) (n : Nat), okD d n = true → Rep c L G (.ref p) d → N ≤ sz d) : ∀ (d : D) (v : V) (n : Nat), okD d n = true → sz d < N → Rep c L G v d → Rep c L (without G p) v d
  | .non, _, _, _, _, h => by cases h; exact .non
  | .bl _, _, _, _, _, h => by cases h; exact .bl _
  | .int _, _, _, _, _, h => by cases h; exact .int _
  | .str _, _, _, _, _, h => by
    cases h with
    | str _ h1 => exact .str _ h1
  | .lst ds, _, n, k, lt, h => by
    have h' := h
    cases h with
    | @lst a vs _ h1 h2 h3 =>
      have ne : a ≠ p := fun e => by
        subst e
        have := hp _ n k h'
        omega
      cases n with
      | zero => simp [okD] at k
      | succ n =>
        simp only [okD] at k
        simp only [sz] at lt
        exact .lst (by rw [without_ne ne]; exact h1) (repL_without hp ds _ n k (by omega) h2) h3
  | .tup ds, _, n, k, lt, h => by
    have h' := h
    cases h with
    | @tup a vs _ h1 h2 h3 =>
      have ne : a ≠ p := fun e => by
        subst e
        have := hp _ n k h'
        omega
      cases n with
      | zero => simp [okD] at k
      | succ n =>
        simp only [okD] at k
        simp only [sz] at lt
        refine .tup ?_ (repL_without hp ds _ n k (by omega) h2) h3
        rcases h1 with (z | ⟨o, z⟩) | z
        · exact .inl (.inl (by rw [without_ne ne]; exact z))
        · exact .inl (.inr ⟨o, by rw [without_ne ne]; exact z⟩)
        · exact .inr z
  | .dct _ _, _, _, k, _, _ => by simp [okD] at k
  | .exc _, _, _, k, _, _ => by simp [okD] at k
  | .cell _, _, _, k, _, _ => by simp [okD] at k
theorem repL_without {p : Addr} {N : Nat} (hp : ∀ (d : D) (n : Nat), okD d n = true → Rep c L G (.ref p) d → N ≤ sz d) : ∀ (ds : List D) (vs : List V) (n : Nat), okDs ds n = true → szs ds < N → RepL c L G vs ds → RepL c L (without G p) vs ds
  | [], _, _, _, _, h => by cases h; exact .nil
  | d :: ds, _, n, k, lt, h => by
    cases h with
    | cons h1 h2 =>
      simp only [okDs, Bool.and_eq_true] at k
      simp only [szs] at lt
      exact .cons (rep_without hp d _ n k.1 (by omega) h1) (repL_without hp ds _ n k.2 (by omega) h2)
end
end
/-- the heap's word on it -/
theorem pe_ti {X : Cx} {a : Expr} {te : TE} (h : PE X a te) : PE X a (fun σ H Q => te σ H fun v H1 => TI X.K H1 → Q v H1) := by
  refine ⟨fun pn s σ H Q I hh => ?_⟩
  refine thn (h.run pn s σ H _ I hh) fun v s1 ⟨x, H1, I1, rx, q⟩ => ⟨x, H1, I1, rx, q ⟨fun b xs ys h1 h2 => I1.tuple_inj h1 h2, fun b xs ys h1 h2 => ?_⟩⟩
  obtain ⟨i1, _, ⟨o1, n1, g1, c1, _⟩, _⟩ := I1.list h1
  obtain ⟨i2, _, ⟨o2, g2, c2, _⟩, _⟩ := I1.tuple h2
  rw [g1] at g2
  cases g2
  rw [c1] at c2
  exact absurd (Value.type.inj c2) (by decide)
/-- the caller's frozen things, and the callee's but for p -/
def overG (G G' : Hp) (p : Option Addr) : Hp := fun a => if some a = p then none else match G a with
  | some o => some o
  | none => G' a
section
variable {c : Cfg} {L L' : List (List Addr)} {G G' H H' : Hp} {T' : List Cell} {p : Addr}
theorem after_over (s : Sub G H) (lf : ∀ a ∈ L.flatten, G a = none) {po : Option Addr} (P : After c L (tupG G) H L' T' G' H') (hp : ∀ p, po = some p → H p = none) : After c L G H L' T' (overG G G' po) H' := by
  have gp : ∀ p, po = some p → G p = none := fun p e => by
    cases q : G p with
    | none => rfl
    | some o =>
      rcases s p o q with z | ⟨_, ob, z⟩ <;> rw [hp p e] at z <;> cases z
  refine ⟨P.le, fun a o h => ?_, fun a o h => ?_, P.store, P.ldist, fun a ha => ?_, P.same, P.lnew, P.lthere, fun a ha => ?_, fun a ha => ?_⟩
  · have ne : ¬ some a = po := fun e => by rw [gp a e.symm] at h; cases h
    unfold overG
    rw [if_neg ne, h]
  · unfold overG at h
    by_cases e : some a = po
    · rw [if_pos e] at h; cases h
    · rw [if_neg e] at h
      cases q : G a with
      | some u =>
        rw [q] at h
        cases h
        have nl : a ∉ L.flatten := fun z => by rw [lf a z] at q; cases q
        rcases s a o q with z | ⟨z, ob, y⟩
        · exact .inl (P.same _ _ z nl)
        · exact .inr ⟨z, ob, P.same _ _ y nl⟩
      | none =>
        rw [q] at h
        exact P.sub a o h
  · unfold overG
    by_cases e : some a = po
    · rw [if_pos e]
    · rw [if_neg e]
      have z := P.lfree a ha
      cases q : G a with
      | none => exact z
      | some o =>
        rcases P.lnew a ha with y | y
        · rw [lf a y] at q; cases q
        · rcases s a o q with w | ⟨_, ob, w⟩ <;> rw [y] at w <;> cases w
  · unfold overG at ha
    by_cases e : some a = po
    · rw [if_pos e] at ha; exact absurd rfl ha
    · rw [if_neg e] at ha
      cases q : G a with
      | some o => exact .inl (by simp)
      | none =>
        rw [q] at ha
        rcases P.gnew a ha with z | z
        · cases y : tupG G a with
          | none => exact absurd y z
          | some o => rw [(tupG_sub y).1] at q; cases q
        · exact .inr z
  · unfold overG
    by_cases e : some a = po
    · rw [if_pos e]
    · rw [if_neg e, lf a ha]
      exact P.lkeep a ha
theorem over_same (s : Sub G H) (P : After c L (tupG G) H L' T' G' H') (hp : H p = none) : Same (without G' p) (overG G G' (some p)) := fun a o h => by
  by_cases e : a = p
  · rw [e, without_eq] at h; cases h
  · rw [without_ne e] at h
    unfold overG
    rw [if_neg (fun z => e (Option.some.inj z))]
    cases q : G a with
    | none => exact h
    | some u =>
      rcases P.gnew a (by rw [h]; simp) with z | z
      · cases y : tupG G a with
        | none => exact absurd y z
        | some w =>
          have := P.ge a w y
          rw [h] at this
          rw [(tupG_sub y).1] at q
          rw [← q, this]
      · rcases s a u q with w | ⟨_, ob, w⟩ <;> rw [z] at w <;> cases w
/-- the list that came back is new -/
theorem back_new (P : After c L (tupG G) H L' T' G' H') {vs : List V} (h : G' p = some (.lst vs)) : H p = none := by
  rcases P.gnew p (by rw [h]; simp) with z | z
  · cases y : tupG G p with
    | none => exact absurd y z
    | some w =>
      have e := P.ge p w y
      rw [h] at e
      cases e
      rcases (tupG_sub y).2 with ⟨xs, q⟩ | ⟨ob, xs, q⟩ <;> cases q
  · exact z
/-- its items do without it -/
theorem back_items (sub : Sub G' H') (ti : TI c.K H') (lf : ∀ a ∈ L'.flatten, G' a = none) {vs : List V} {ds : List D} (h : G' p = some (.lst vs)) (r : RepL c L' G' vs ds) (hz : ds.length ≤ sizeLine) (k : okDs ds 60 = true) : RepL c L' (without G' p) vs ds :=
  repL_without (N := sz (.lst ds)) (fun d n kd rd => by
    rw [rep_uniq sub ti lf (.lst ds) (.ref p) 61 d n k kd (.lst h r hz) rd]; exact Nat.le_refl _) ds vs 60 k (by simp only [sz]; omega) r
end
/-- a def's list, the caller's own -/
def oFn (F : List D → M D) (as : List Ex) : Ox := fun ρ => dArgs as ρ >>= fun ds => if noLs ds = true then F ds >>= fun d => (match d with
  | .lst xs => if okDs xs 60 = true then M.ret xs else M.fail
  | _ => M.fail) else M.fail
section
variable {X : Cx} {c : Cfg} {W : WX} {k j : Nat} {a b : Expr} {es : List Expr} {fa : Ex} {fs : List Ex} {pos p : Pos} {x : Str} {ps : List Str} {F : List D → M D}
theorem do_fn (h : Ctx X c W k) (C : Fn c X.mg X.base x ps j F) (ha : PA X (a :: es) (tL c W (dArgs fs))) (hl : fs.length = ps.length := by rfl) (hj : j ≤ k := by decide) (hg : Gl X x := by rfl) (hdb : (x == ("__debug__" : Str)) = false := by decide)
    (ns : NS a := by intro _ _; rfl) (hpl : (backTo pos (starEach es X.env)).any (·.1) = false := by rfl) :
    PE X (.Call (.Name x p) (a :: es) [] pos) (tO c W (oFn F fs)) := by
  obtain ⟨f, fd, h1, h2, h3, h4⟩ := C.ex
  have h4' : FnOk X.prog X.w X.K X.mg X.base (L2.CX X.prog X.w) j f fd ps (spF c ps.length F) := by rw [h.hP, h.hw, h.hK]; exact h4
  have h3' : Binds X.K fd ps [] := by rw [h.hK]; exact h3
  have h2' : PySem.W.keepIn X.K (.ref f) = true := by rw [h.hK]; exact h2
  refine (pe_ti (pe_callS h4' (h.room.mono hj) hg h1 h2' h3' (fun σ => passAt h.tk σ) ha hdb (ns _ _) hpl)).imp fun σ H Q q => ?_
  obtain ⟨e, L, T, G, ρ, S, p⟩ := q
  refine ⟨e, L, T, G, ρ, S, ?_⟩
  unfold oFn at p
  cases hr : dArgs fs ρ T with
  | bad => rw [bnd_bad hr] at p; exact p
  | exn k T' => rw [bnd_exn hr] at p; exact p
  | ok ds T' =>
    rw [bnd_ok hr] at p
    intro vs L' G' H1 l1 g1 S1 rv
    by_cases nl : noLs ds = true
    · rw [if_pos nl] at p
      refine ⟨by rw [rv.length, dArgs_length fs ρ T ds T' hr, hl], L', T', tupG G', ds, fun a o ho => S1.subS a o (tupG_sub ho).1, S1.store, S1.ldist, fun a ha => ?_, repL_tupG ds _ nl rv, ?_⟩
      · have z := S1.lfree a ha
        unfold tupG; rw [z]
      · cases hF : F ds T' with
        | bad => rw [bnd_bad hF] at p; exact p
        | exn k t =>
          rw [bnd_exn hF] at p
          intro L2 G2 H2 P
          have P2 := after_over (po := none) S1.subS S1.lfree P (fun _ z => by cases z)
          exact p L2 _ H2 (l1.trans P.le) (fun a o h => P2.ge a o (g1 a o h)) (S1.after P2)
        | ok d t =>
          rw [bnd_ok hF] at p
          intro v L2 G2 H2 P rd ti
          cases d with
          | lst xs =>
            dsimp only at p
            by_cases kx : okDs xs 60 = true
            · rw [if_pos kx] at p
              cases rd with
              | @lst q ws _ k1 k2 k3 =>
                have hq := back_new P k1
                have P2 := after_over (po := some q) S1.subS S1.lfree P (fun a z => by cases z; exact hq)
                have S2 := S1.after P2
                rw [h.hK] at ti
                have r2 := (back_items P.sub ti P.lfree k1 k2 k3 kx).up (LE.refl _) (over_same S1.subS P hq)
                refine p q L2 _ H2 (l1.trans P.le) (fun a o h => P2.ge a o (g1 a o h)) S2 ⟨⟨ws, ?_, r2, k3⟩, if_pos rfl, fun z => ?_, fun z => ?_, ?_, fun y hy => ?_, fun i sv hi ow => ?_⟩
                · rcases P.sub _ _ k1 with z | ⟨z, _⟩
                  · exact z
                  · exact z.elim
                · rw [P.lfree q z] at k1; cases k1
                · exact S1.l0there q z hq
                · exact S1.h0none hq (S1.notcell hq) fun z => S1.l0there q z hq
                · exact S1.notx hq y hy
                · exact S1.notslot hq i sv hi ow
            · rw [if_neg kx] at p; exact p.elim
          | _ => exact p.elim
    · rw [if_neg nl] at p; exact p.elim
end
end WW
set_option maxHeartbeats 2000000
namespace WW
open PySem PySem.Spec PyProof.Rows L2
theorem tupG_without {G : Hp} {p : Addr} {vs : List V} (h : G p = some (.lst vs)) : Same (tupG G) (without G p) := fun a o ha => by
  obtain ⟨h1, h2⟩ := tupG_sub ha
  have ne : a ≠ p := fun e => by
    rw [e, h] at h1
    cases h1
    rcases h2 with ⟨xs, q⟩ | ⟨ob, xs, q⟩ <;> cases q
  rw [without_ne ne]; exact h1
def uRes (d : D) : M (D × D × List D) := match d with
  | .tup [a, b, .lst xs] => if (okDs xs 60 && (noL a && noL b)) = true then M.ret (a, b, xs) else M.fail
  | _ => M.fail
theorem uRes_ok {d : D} {T : List Cell} : (∃ a b xs, d = .tup [a, b, .lst xs] ∧ (okDs xs 60 && (noL a && noL b)) = true ∧ uRes d T = .ok (a, b, xs) T) ∨ uRes d T = .bad := by
  unfold uRes
  split
  · rename_i a b xs
    by_cases kx : (okDs xs 60 && (noL a && noL b)) = true
    · exact .inl ⟨a, b, xs, rfl, kx, by rw [if_pos kx]; rfl⟩
    · exact .inr (by rw [if_neg kx]; rfl)
  · exact .inr rfl
def uFn (F : List D → M D) (as : List Ex) : En → M (D × D × List D) := fun ρ => dArgs as ρ >>= fun ds => if noLs ds = true then F ds >>= uRes else M.fail
def sUnpF (i0 i1 i2 : Nat) (f : En → M (D × D × List D)) : Sx := fun ρ => f ρ >>= fun r => M.ret (.nx ((putE (putE ρ i0 r.1) i1 r.2.1).set i2 (some (.ol r.2.2))))
def tU (c : Cfg) (W : WX) (f : En → M (D × D × List D)) : TE := fun σ H Q => ∃ e L T G ρ, Sta c e L T G H σ ρ ∧
  match f ρ T with
  | .ok r T' => ∀ t va vb p L' G' H', LE L L' → Same G G' → Sta c e L' T' G' H' σ ρ → SqT c.K H' t [va, vb, .ref p] → Rep c L' G' va r.1 → Rep c L' G' vb r.2.1 → FreshL c e L' G' H' σ ρ p r.2.2 → Q (.ref t) H'
  | .exn k T' => ∀ L' G' H', LE L L' → Same G G' → Sta c e L' T' G' H' σ ρ → W (.ref (c.CA k)) none σ H'
  | .bad => False
theorem FreshL.put {c : Cfg} {e : Gh} {L : List (List Addr)} {G H : Hp} {σ : L2.St} {ρ : En} {p : Addr} {ds : List D} (f : FreshL c e L G H σ ρ p ds) (i : Nat) (v : V) (d : D) : FreshL c e L G H (σ.set i (some v)) (putE ρ i d) p ds :=
  ⟨f.at_, f.g, f.l, f.l0, f.h0, f.xo, fun j sv hj ow => by
    rcases get_set hj with ⟨rfl, e1⟩ | ⟨hne, e1⟩
    · cases e1; exact ow.elim
    · rw [List.getElem?_set_ne (fun z => hne z.symm)]
      exact f.sl j sv e1 ow⟩
section
variable {X : Cx} {c : Cfg} {W : WX} {k j : Nat} {a b : Expr} {es : List Expr} {fa : Ex} {fs : List Ex} {pos p : Pos} {x : Str} {ps : List Str} {F : List D → M D}
theorem du_fn (h : Ctx X c W k) (C : Fn c X.mg X.base x ps j F) (ha : PA X (a :: es) (tL c W (dArgs fs))) (hl : fs.length = ps.length := by rfl) (hj : j ≤ k := by decide) (hg : Gl X x := by rfl) (hdb : (x == ("__debug__" : Str)) = false := by decide)
    (ns : NS a := by intro _ _; rfl) (hpl : (backTo pos (starEach es X.env)).any (·.1) = false := by rfl) :
    PE X (.Call (.Name x p) (a :: es) [] pos) (tU c W (uFn F fs)) := by
  obtain ⟨f, fd, h1, h2, h3, h4⟩ := C.ex
  have h4' : FnOk X.prog X.w X.K X.mg X.base (L2.CX X.prog X.w) j f fd ps (spF c ps.length F) := by rw [h.hP, h.hw, h.hK]; exact h4
  have h3' : Binds X.K fd ps [] := by rw [h.hK]; exact h3
  have h2' : PySem.W.keepIn X.K (.ref f) = true := by rw [h.hK]; exact h2
  refine (pe_ti (pe_callS h4' (h.room.mono hj) hg h1 h2' h3' (fun σ => passAt h.tk σ) ha hdb (ns _ _) hpl)).imp fun σ H Q q => ?_
  obtain ⟨e, L, T, G, ρ, S, p⟩ := q
  refine ⟨e, L, T, G, ρ, S, ?_⟩
  unfold uFn at p
  cases hr : dArgs fs ρ T with
  | bad => rw [bnd_bad hr] at p; exact p
  | exn k T' => rw [bnd_exn hr] at p; exact p
  | ok ds T' =>
    rw [bnd_ok hr] at p
    intro vs L' G' H1 l1 g1 S1 rv
    by_cases nl : noLs ds = true
    · rw [if_pos nl] at p
      refine ⟨by rw [rv.length, dArgs_length fs ρ T ds T' hr, hl], L', T', tupG G', ds, fun a o ho => S1.subS a o (tupG_sub ho).1, S1.store, S1.ldist, fun a ha => ?_, repL_tupG ds _ nl rv, ?_⟩
      · have z := S1.lfree a ha
        unfold tupG; rw [z]
      · cases hF : F ds T' with
        | bad => rw [bnd_bad hF] at p; exact p
        | exn k t =>
          rw [bnd_exn hF] at p
          intro L2 G2 H2 P
          have P2 := after_over (po := none) S1.subS S1.lfree P (fun _ z => by cases z)
          exact p L2 _ H2 (l1.trans P.le) (fun a o h => P2.ge a o (g1 a o h)) (S1.after P2)
        | ok d t =>
          rw [bnd_ok hF] at p
          intro v L2 G2 H2 P rd ti
          rcases uRes_ok (d := d) (T := t) with ⟨da, db, xs, ed, kx, eu⟩ | eu
          · subst ed
            · rw [eu] at p
              simp only [Bool.and_eq_true] at kx
              obtain ⟨k0, ka, kb⟩ := kx
              cases rd with
              | @tup t ws _ t1 t2 t3 =>
                cases t2 with
                | cons ra t2 =>
                  cases t2 with
                  | cons rb t2 =>
                    cases t2 with
                    | cons rc t2 =>
                      cases t2
                      cases rc with
                      | @lst q zs _ k1 k2 k3 =>
                        have hq := back_new P k1
                        have P2 := after_over (po := some q) S1.subS S1.lfree P (fun a z => by cases z; exact hq)
                        have S2 := S1.after P2
                        rw [h.hK] at ti
                        have sm := over_same S1.subS P hq
                        have r2 := (back_items P.sub ti P.lfree k1 k2 k3 k0).up (LE.refl _) sm
                        have ra2 := ((rep_tupG da _ ka ra).up (LE.refl _) (tupG_without k1)).up (LE.refl _) sm
                        have rb2 := ((rep_tupG db _ kb rb).up (LE.refl _) (tupG_without k1)).up (LE.refl _) sm
                        refine p t _ _ q L2 _ H2 (l1.trans P.le) (fun a o h => P2.ge a o (g1 a o h)) S2 (P.sub.sqT t1) ra2 rb2 ⟨⟨zs, ?_, r2, k3⟩, if_pos rfl, fun z => ?_, fun z => ?_, ?_, fun y hy => ?_, fun i sv hi ow => ?_⟩
                        · rcases P.sub _ _ k1 with z | ⟨z, _⟩
                          · exact z
                          · exact z.elim
                        · rw [P.lfree q z] at k1; cases k1
                        · exact S1.l0there q z hq
                        · exact S1.h0none hq (S1.notcell hq) fun z => S1.l0there q z hq
                        · exact S1.notx hq y hy
                        · exact S1.notslot hq i sv hi ow
          · rw [eu] at p; exact p.elim
    · rw [if_neg nl] at p; exact p.elim
/-- a, b, x = f(..) -/
theorem ds_unpF (i0 i1 i2 : Nat) {es : List Expr} {fu : En → M (D × D × List D)} {kk : Nat} {tp : Pos} (h : Ctx X c W k) (hn : PNs X es [i0, i1, i2]) (ha : PE X a (tU c W fu)) (hl : (assignEach es X.env).length = 3 := by rfl) (hst : (assignEach es X.env).findIdx? (·.1) = none := by rfl)
    (hs : swapsWithSole [.Tuple es kk tp] a pos.line X.env = pure false := by rfl) (hw : swappedStores [.Tuple es kk tp] a X.env = pure none := by rfl) (h1 : (assignEach [.Tuple es kk tp] X.env).map (·.2) = [assign (.Tuple es kk tp) X.env] := by rfl) :
    PS X (.Assign [.Tuple es kk tp] a pos) (tS c W (sUnpF i0 i1 i2 fu)) := by
  refine (ps_asg ha (pg_tup h.calm hn.pg hl hst) hs hw h1).imp fun D σ H q => ?_
  obtain ⟨e, L, T, G, ρ, S, p⟩ := q
  refine ⟨e, L, T, G, ρ, S, ?_⟩
  unfold sUnpF at p
  cases hr : fu ρ T with
  | bad => rw [bnd_bad hr] at p; exact p
  | exn k T' => rw [bnd_exn hr] at p; exact fun L' G' H' h1 h2 S' => p L' G' H' σ ρ h1 h2 S'
  | ok r T' =>
    rw [bnd_ok hr] at p
    intro t va vb q L' G' H' l1 g1 S' sq ra rb fr
    refine ⟨t, _, rfl, by rw [h.hK]; exact sq, rfl, rfl, ?_⟩
    exact p L' G' H' _ l1 g1 (((S'.put ra).put rb).putO ((fr.put i0 va r.1).put i1 vb r.2.1))
end
end WW
set_option maxHeartbeats 4000000
namespace WW
open PySem PySem.Spec PyProof.Rows L2
theorem tuple_mul1 (l : Addr) (items : Array Value) (n : Nat) (dd : Option Addr) (sl : Array (Option Value)) (u : Tok) :
    Meets (Builtin.«tuple.__mul__» ⟨[.ref l, .int 1 u], []⟩) (fun _ R s => s.heap.get? l = some { cls := .type "tuple", dict := dd, data := .seq items n, slots := sl } ∧ R (.ok (.ret (Value.ref l))) s) :=
  .of_wp fun prog w A R s h => by
    obtain ⟨hp, g, d, tk, os⟩ := s
    obtain ⟨hl, h⟩ := h
    have f1 := AutoSeq1.idx_int
    wp_walk using wpAny_loadPart' hl
    exact ⟨_, rfl, h⟩
theorem op_rep1 {X : Cx} : OpR X (binaryOp .Mult) (fun x y H Q => ∃ l xs, x = V.ref l ∧ y = V.int 1 ∧ SqT X.K H l xs ∧ Q (.ref l) H) := by
  intro pins s σ H x y v u Q I rx ry h
  obtain ⟨l, xs, rfl, rfl, hT, q⟩ := h
  cases rx
  obtain ⟨t, rfl⟩ := ry
  obtain ⟨its, rvs, ⟨⟨kl, dd, dat, sl⟩, ho, e1, n, e2⟩, _⟩ := I.tuple hT
  simp only at e1 e2
  subst e1 e2
  exact wpAny_binaryOp_repeat_ref (T := "tuple") (U := "int") (by decide) ⟨_, ho, rfl⟩ (fun s' => typeIs_int s' 1 t) noFill_tuple_mul F.fills_int_mul F.slot_int_rmul repeat_tuple F.slot_int_index.lookup
    (call_meets F.slot_int_rmul (typeIs_int s 1 t) F.entry_int_rmul (F.args_int_rmul_2 _ _) (int_rmul_tuple 1 t l its.toArray n dd sl)
      ⟨ho, rfl, ⟨_, ho, rfl⟩, call_meets F.slot_tuple_mul ⟨_, ho, rfl⟩ F.entry_tuple_mul (F.args_tuple_mul_2 _ _) (tuple_mul1 l its.toArray n dd sl t) ⟨ho, .ref l, H, I, rfl, q⟩⟩)
def mulTM : D → D → M D
  | .tup xs, .int k => if k = 1 then M.ret (.tup xs) else if (2 ≤ k ∧ k ≤ 1000) ∧ (xs.length ≤ 1000 ∧ xs.length ≠ 0) then M.ret (.tup (List.replicate k.toNat xs).flatten) else M.fail
  | _, _ => M.fail
theorem op2_mulT {c : Cfg} : Op2 c (fun x y H Q => (∃ l xs, x = V.ref l ∧ y = V.int 1 ∧ SqT c.K H l xs ∧ Q (.ref l) H) ∨ rRepT c.K x y H Q) mulTM := by
  intro e W L T G H σ ρ x y a b Q S rx ry p
  cases a with
  | tup xs =>
    cases b with
    | int k =>
      have rx' := rx
      cases rx with
      | @tup ax vs _ h1 h2 h3 =>
        cases ry
        simp only [mulTM] at p
        by_cases k1 : k = 1
        · subst k1
          rw [if_pos rfl] at p
          exact .inl ⟨ax, vs, rfl, rfl, S.subS.sqT h1, p.val S rx'⟩
        · rw [if_neg k1] at p
          by_cases z : (2 ≤ k ∧ k ≤ 1000) ∧ (xs.length ≤ 1000 ∧ xs.length ≠ 0)
          · rw [if_pos z] at p
            obtain ⟨⟨z1, z2⟩, z3, z4⟩ := z
            refine .inr ⟨ax, k, vs, rfl, rfl, S.subS.sqT h1, fun q => ?_, z1, z2, by rw [h2.length]; exact z3, p.newT S (repL_rep h2 _) ?_⟩
            · have := h2.length
              rw [q] at this
              exact z4 this.symm
            · rw [len_rep, sizeLine_eq]
              have : xs.length * k.toNat ≤ 1000 * 1000 := Nat.mul_le_mul z3 (by omega)
              omega
          · rw [if_neg z] at p
            exact p.bad
    | _ => exact p.bad
  | _ => exact p.bad
section
variable {X : Cx} {c : Cfg} {W : WX} {k : Nat} {a b : Expr} {fa fb : Ex} {pos : Pos}
theorem de_mulT (h : Ctx X c W k) (ha : PE X a (tD c W fa)) (hb : PE X b (tD c W fb)) : PE X (.BinOp a .Mult b pos) (tD c W (d2 mulTM fa fb)) :=
  de_op (OpR.or (h.hK ▸ op_rep1) (h.hK ▸ op_repT)) op2_mulT ha hb
end
end WW
set_option maxHeartbeats 2000000
namespace WW
open PySem PySem.Spec PyProof.Rows L2
def isB (b : Bool) : Value → Bool
  | .bool c => b == c
  | _ => false
theorem isB_some {b : Bool} {v : Value} (h : isB b v = true) : v = .bool b := by
  cases v with
  | bool c =>
    have : (b == c) = true := h
    rw [eq_of_beq this]
  | _ => cases h
def bLeaf (b : Bool) : Leaf := .num (if b = true then 1 else 0)
theorem isB_leaf {b : Bool} {v : Value} (h : isB b v = true) : (bLeaf b).isOf v = true := by
  rw [isB_some h]
  exact decide_eq_true rfl
/-- keys True, False -/
def boolKind (P : Program) (w : World) : KeyKind P w Bool where
  is := isB
  hash := fun b => (leafKind P w).hash (bLeaf b)
  inj := fun v a b ha hb => by
    have := (isB_some ha).symm.trans (isB_some hb)
    injection this
  byValue := fun b v h => (leafKind P w).byValue _ _ (isB_leaf h)
  pyHash := fun h q => (leafKind P w).pyHash (isB_leaf h) q
  eqBool := fun {A E s a b u v Q} hu hv h => (leafKind P w).eqBool (isB_leaf hu) (isB_leaf hv) (by
    have : decide (bLeaf a = bLeaf b) = decide (a = b) := by cases a <;> cases b <;> rfl
    rw [this]; exact h)
  «strs» := fun k x t v h => by cases h
theorem bools_two {bs : List Bool} (h : bs.Nodup) : bs.length ≤ 2 := by
  match bs, h with
  | [], _ => simp
  | [_], _ => simp
  | [_, _], _ => simp
  | a :: b :: c :: l, h =>
    exfalso
    rw [List.nodup_cons, List.nodup_cons] at h
    obtain ⟨h1, h2, _⟩ := h
    simp only [List.mem_cons, not_or] at h1 h2
    obtain ⟨n1, n2, _⟩ := h1
    obtain ⟨n3, _⟩ := h2
    cases a <;> cases b <;> cases c <;> simp_all
def putB (bs : List Bool) (b : Bool) : List Bool := if b ∈ bs then bs else bs ++ [b]
def dictB (P : Program) (w : World) (a : Addr) (bs : List Bool) : HO := .ext fun h => (a == sysModules) = false ∧ ∃ kvs : List (Bool × Value), h.DictOf (boolKind P w) a kvs ∧ kvs.map (·.1) = bs
theorem stored_keys (kvs : List (Bool × Value)) (b : Bool) (v : Value) : (stored kvs b v).map (·.1) = putB (kvs.map (·.1)) b := by
  unfold stored putB
  have e : (kvs.any fun kv => decide (kv.1 = b)) = decide (b ∈ kvs.map (·.1)) := by
    apply Bool.eq_iff_iff.mpr
    simp [List.any_eq_true]
  rw [e]
  by_cases z : b ∈ kvs.map (·.1)
  · rw [if_pos (decide_eq_true z), if_pos z, List.map_map]
    refine List.map_congr_left fun q _ => ?_
    show (if q.1 = b then (q.1, v) else q).1 = q.1
    split <;> rfl
  · rw [if_neg (by simpa using z), if_neg z, List.map_append]; rfl
inductive BDict (P : Program) (w : World) (H : Hp) (a : Addr) : List Bool → Prop
  | full {bs : List Bool} (h : H a = some (dictB P w a bs)) : BDict P w H a bs
  | none : H a = some (.dK []) → BDict P w H a []
section
variable {X : Cx} {pins : List (Addr × Obj)} {σ : L2.St} {H : Hp} {s : Shared} {a : Addr} {bs : List Bool}
theorem bdict_at (I : Inv X pins σ H s) (e : BDict X.prog X.w H a bs) : ∃ kvs, s.heap.DictOf (boolKind X.prog X.w) a kvs ∧ kvs.map (·.1) = bs ∧ (a == sysModules) = false ∧ Mut (H a) := by
  cases e with
  | full e =>
    obtain ⟨⟨hd, kvs, dd, ek⟩, _, _⟩ := I.hok a _ e
    exact ⟨kvs, dd, ek, hd, by rw [e]; trivial⟩
  | none e =>
    obtain ⟨z, hd, vs, kv, o, ds, ep, ho, hx, hdt, h1, h2, h3⟩ := I.hok a _ e
    cases kv
    have e0 : ds.toList = [] := by
      have l := h2.length
      simpa using l
    have k1 : KeysOf (boolKind X.prog X.w) ds := fun q hq => by
      have : q ∈ ds.toList := by simpa using hq
      rw [e0] at this; cases this
    have k2 : Pairs (boolKind X.prog X.w) ds.toList [] := by rw [e0]; exact .nil
    exact ⟨[], ⟨o, ds, ep, ho, hx, hdt, k1, k2, by simp⟩, rfl, hd, by rw [e]; trivial⟩
theorem b_new {P : Program} {w : World} {H' : Hp} {h' : Heap} {kvs : List (Bool × Value)} (hd : (a == sysModules) = false) (ek : kvs.map (·.1) = bs) (dd : h'.DictOf (boolKind P w) a kvs) : ObjOk P w H' h' a (dictB P w a bs) := by
  obtain ⟨o, ds, ep, ho, r⟩ := dd
  exact ⟨⟨hd, kvs, ⟨o, ds, ep, ho, r⟩, ek⟩, ⟨o, ho⟩, fun h1 h2 ⟨a2, kvs, ⟨o2, ds2, ep2, ho2, r⟩, ek⟩ st => ⟨a2, kvs, ⟨o2, ds2, ep2, st _ ho2, r⟩, ek⟩⟩
theorem dset_b {E : Value → Shared → Prop} {b : Bool} {u r : Value} {Q : Unit → Shared → Prop} (I : Inv X pins σ H s) (e : BDict X.prog X.w H a bs) (ry : RelV (.bl b) u)
    (h : ∀ s', Inv X pins σ (upd H a (dictB X.prog X.w a (putB bs b))) s' → Q () s') : wpAny (model X.prog X.w) X.A (dictSet a u r) Q E s := by
  obtain ⟨kvs, dd, ek, hd, mu⟩ := bdict_at I e
  have eu : u = .bool b := ry
  subst eu
  have l2 : kvs.length ≤ 2 := by
    obtain ⟨_, _, _, _, _, _, _, _, nd⟩ := dd
    have := bools_two nd
    rwa [List.length_map] at this
  refine wpAny_dictSet_pairs (knd := boolKind X.prog X.w) (k := b) (hsz := Nat.le_trans l2 (by decide)) (show isB b (.bool b) = true by simp [isB]) dd fun h' dd' sb => h _ ?_
  have he : ∃ q, h'.get? a = some q := let ⟨q, _, _, hq, _⟩ := dd'; ⟨q, hq⟩
  exact d_write I mu sb he (b_new hd (by rw [stored_keys, ek]) dd')
def bvB : Value → Bool
  | .bool b => b
  | _ => false
def ltBv (v u : Value) : Bool := decide (b2i (bvB v) < b2i (bvB u))
theorem swo_bool : SrtO.Swo ltBv := by
  refine ⟨fun x y h => ?_, fun x y z h1 h2 => ?_⟩
  · have a := of_decide_eq_true (p := b2i (bvB x) < b2i (bvB y)) h
    exact decide_eq_false (p := b2i (bvB y) < b2i (bvB x)) (by omega)
  · have a := of_decide_eq_false (p := b2i (bvB y) < b2i (bvB x)) h1
    have b := of_decide_eq_false (p := b2i (bvB z) < b2i (bvB y)) h2
    exact decide_eq_false (p := b2i (bvB z) < b2i (bvB x)) (by omega)
theorem first_bool (b : Bool) : firstOfTuple' (.bool b) = pure none := rfl
theorem mapM_first_bools : ∀ (bs : List Bool), (bs.map Value.bool).mapM firstOfTuple' = pure (bs.map fun _ => none)
  | [] => by simp
  | b :: bs => by rw [List.map_cons, List.mapM_cons, first_bool, mapM_first_bools bs]; simp
theorem mapM_typeOf_bools : ∀ (bs : List Bool), (bs.map Value.bool).mapM typeOf = pure (bs.map fun _ => Value.type "bool")
  | [] => by simp
  | b :: bs => by
    rw [List.map_cons, List.mapM_cons, mapM_typeOf_bools bs]
    show (pure (Value.type "bool") >>= fun b => pure _ >>= fun bs => pure (b :: bs)) = _
    simp
theorem keyKind_bools {bs : List Bool} (h : 2 ≤ bs.length) : keyKind' (bs.map Value.bool).toArray = pure oneType' := by
  match bs, h with
  | b1 :: b2 :: bs, _ =>
    rw [keyKind'_eq, List.mapM_toArray, mapM_first_bools]
    simp only [map_pure, pure_bind]
    rw [if_neg (by simp), if_neg (by simp)]
    rw [oneTypeOnly'_eq, List.mapM_toArray, mapM_typeOf_bools]
    simp only [map_pure, pure_bind]
    have hall : ((List.map (fun _ => Value.type "bool") (b1 :: b2 :: bs)).toArray.all fun x => x == Value.type "bool") = true := by
      simp only [List.all_toArray, List.all_map, List.all_eq_true]
      intro _ _
      rfl
    have h0 : (List.map (fun _ => Value.type "bool") (b1 :: b2 :: bs)).toArray[0]? = some (Value.type "bool") := by simp
    rw [h0]
    simp only [hall, if_true, pure_bind, Option.isSome_some]
theorem bools_sortable {prog : Program} {w : World} {A : Around} {s : Shared} {a : Addr} {bs : List Bool} (h2 : 2 ≤ bs.length) : SrtO.SortableO prog w A s a (bs.map Value.bool) ltBv := by
  intro h' _
  refine ⟨oneType', fun Q E hq => ?_, fun p q hm hm' => ?_⟩
  · rw [keyKind_bools h2]
    exact wpAny_pure hq
  · obtain ⟨x, _, ex⟩ := List.mem_map.mp hm
    obtain ⟨y, _, ey⟩ := List.mem_map.mp hm'
    show wpAny (model prog w) A (keyLt' oneType' p.1 q.1) (fun r s' => s' = _ ∧ r = ltBv p.1 q.1) (fun _ _ => False) _
    rw [← ex, ← ey, keyLt'_oneType]
    exact PySem.W.oneLt_bool ⟨rfl, rfl⟩
def rSortDB (P : Program) (w : World) : List V → Hp → VK → Prop := fun vs H Q => ∃ (a : Addr) (bs : List Bool), vs = [V.ref a] ∧ BDict P w H a bs ∧ ∀ (ms : List Bool) p, ms.Perm bs → (ms.map b2i).Pairwise (· ≤ ·) → ms.length ≤ 2 → H p = none → Q (.ref p) (upd H p (.lst (ms.map V.bl)))
theorem vals_of_bools : ∀ (bs : List Bool), Vals (bs.map V.bl) (bs.map Value.bool)
  | [] => .nil
  | b :: bs => .cons (show RelV (V.bl b) (Value.bool b) from rfl) (vals_of_bools bs)
theorem pairs_bools {P : Program} {w : World} : ∀ {l : List DictEntry} {kvs : List (Bool × Value)}, Pairs (boolKind P w) l kvs → l.map (·.key) = (kvs.map (·.1)).map Value.bool := by
  intro l kvs p
  induction p with
  | nil => rfl
  | cons q1 q2 q3 ih => rw [List.map_cons, List.map_cons, List.map_cons, ih, isB_some q1]
theorem cr_sortDB {X : Cx} (hc : X.calm = true) : CallR X (.builtin "sorted") (rSortDB X.prog X.w) := by
  intro pins s σ H vs us Q I r h
  obtain ⟨a, bs, rfl, hb, q⟩ := h
  obtain ⟨kvs, ⟨o, es, ep, ho, hx, hdt, k1, k2, k3⟩, ek, hd, mu⟩ := bdict_at I hb
  rw [Vals.ref1 r]
  have ke := pairs_bools k2
  rw [ek] at ke
  rw [ek] at k3
  have l2 := bools_two k3
  have lz : (bs.map Value.bool).length ≤ sizeLine := by rw [List.length_map]; exact Nat.le_trans l2 (by decide)
  have hk : DKeys s.heap a (bs.map Value.bool) := ⟨es, ep, ⟨o, ho, hx, hdt⟩, ke.symm, hd⟩
  refine sorted_dict swo_bool (I.ok.hd hc) hk lz (fun h2 h₁ a' tk _ _ => bools_sortable (by rwa [List.length_map] at h2)) fun out h1 h' tk n s1 s2 k1 k2 k3 => ?_
  have ob : ∀ u ∈ out, u = Value.bool (bvB u) := fun u hu => by
    obtain ⟨b, _, e⟩ := List.mem_map.mp (s2.perm.mem_iff.mp hu)
    rw [← e]; rfl
  have eo : out = (out.map bvB).map Value.bool := by
    rw [List.map_map]
    conv => lhs; rw [← List.map_id out]
    exact List.map_congr_left fun u hu => ob u hu
  have pm : (out.map bvB).Perm bs := by
    have := s2.perm.map bvB
    rw [List.map_map] at this
    have e : (bvB ∘ Value.bool) = id := rfl
    rwa [e, List.map_id] at this
  have I1 : Inv X pins σ H { s with heap := h1 } := I.kept (t' := s.toks) k1
  have new := I1.hok.fresh (Nat.le_refl h1.objs.size)
  have l3 : (out.map bvB).length ≤ 2 := by rw [pm.length_eq]; exact l2
  refine ⟨.ref _, upd H h1.objs.size (.lst ((out.map bvB).map V.bl)), I1.laid (t' := tk) k2 (Nat.le_refl _) ⟨by rw [List.length_map]; exact Nat.le_trans l3 (by decide), out, n, ?_, k3⟩, rfl, q _ _ pm ?_ l3 new⟩
  · have := vals_of_bools (out.map bvB)
    rw [← eo] at this
    exact this
  · rw [List.map_map]
    exact List.pairwise_map.mpr (s1.imp fun {x y} h => Int.not_lt.mp (of_decide_eq_false (p := b2i (bvB y) < b2i (bvB x)) h))
end
def BStep (P : Program) (w : World) (D : Addr) (H : Hp) (y : V) (H' : Hp) : Prop := ∃ bs b, y = .bl b ∧ BDict P w H D bs ∧ H' = upd H D (dictB P w D (putB bs b))
def trSetB (P : Program) (w : World) (tk tv : TE) : Addr → L2.St → Hp → (Hp → Prop) → Prop := fun D σ H Nx => tk σ H fun y H1 => tv σ H1 fun z H2 => ∃ H3, BStep P w D H2 y H3 ∧ Nx H3
theorem act_setB {Y : Cx} {kx vx : Expr} {tk tv : TE} {D : Addr} {vs : List Nat} (hx : Y.xe = fun _ _ => False) (hk : PE Y kx tk) (hv : PE Y vx tv) : ActOk Y (actSet (model Y.prog Y.w) Y.A kx vx D Y.env) (trSetB Y.prog Y.w tk tv D) vs := by
  intro pn s σ H Nx NB I q Post fin
  have r1 := hk.run pn s σ H _ I q
  rw [hx] at r1
  refine thnF r1 fun kz s1 ⟨y, H1, I1, ry, q1⟩ => ?_
  have r2 := hv.run pn s1 σ H1 _ I1 q1
  rw [hx] at r2
  refine thnF r2 fun vz s2 ⟨z, H2, I2, rz, H3, st, nx⟩ => ?_
  obtain ⟨bs, b, rfl, hb, rfl⟩ := st
  exact dset_b I2 hb ry fun s' I' => fin s' σ _ I' rfl (fun _ _ => rfl) nx
section
variable {X : Cx} {kx vx tg iter : Expr} {ifs : List Expr} {scope : Scope} {own : List (Str × Nat)} {pos : Pos} {wi : L2.TI} {g : TG} {tt : TT} {tk tv : TE}
theorem pe_dcB (hc : X.calm = true) (hN : X.N.Nodup) (hi : PI X tg iter wi) (ok : BlkOk X.N X.env.scope scope own)
    (hg : ∀ (s : Shared) (H : Hp) (C : Addr) (cl : List (Str × Addr)) (fp : List Addr), PG (X.blk s H scope (compEnvC scope cl C X.env) fp) tg g)
    (ht : ∀ (s : Shared) (H : Hp) (C : Addr) (cl : List (Str × Addr)) (fp : List Addr), PTs (X.blk s H scope (compEnvC scope cl C X.env) fp) ifs tt)
    (hk : ∀ (s : Shared) (H : Hp) (C : Addr) (cl : List (Str × Addr)) (fp : List Addr), PE (X.blk s H scope (compEnvC scope cl C X.env) fp) kx tk)
    (hv : ∀ (s : Shared) (H : Hp) (C : Addr) (cl : List (Str × Addr)) (fp : List Addr), PE (X.blk s H scope (compEnvC scope cl C X.env) fp) vx tv) (hs : ∀ x, foldedSetIterable iter X.env x = pure x := by intro _; rfl) :
    PE X (.DictComp kx vx [⟨tg, iter, ifs, 0⟩] scope pos) (tDcG wi g tt (trSetB X.prog X.w tk tv) (own.map (·.2))) := by
  refine ⟨fun pn s σ H Q I h => ?_⟩
  rw [arm_eval_DictComp]
  refine dcg_core (act := fun D en => actSet (model X.prog X.w) X.A kx vx D en) hc hN I hi ok hg ht (fun s H C D cl fp => act_setB (Y := X.blk s H scope (compEnvC scope cl C X.env) fp) rfl (hk s H C cl fp) (hv s H C cl fp)) (fun R it D C cl Z n s tn h0 => loop_set1 rfl Z tn n h0) hs h
    fun D C s' m H' I' q hn f => ⟨m, hn, fun h'' sb => ?_⟩
  obtain ⟨f0, f1, f2, f3, f4, f5⟩ := f
  exact ⟨.ref D, H', I'.turned (t' := s'.toks) (fun b o hb e => (sb.2 b hb).trans e) f0 f1 f3 f4 f5, rfl, q⟩
end
def hasBD : List D → Bool → Bool
  | [], _ => false
  | .bl c :: ks, b => c == b || hasBD ks b
  | _ :: ks, b => hasBD ks b
def putBD (ks : List D) (b : Bool) : List D := if hasBD ks b = true then ks else ks ++ [.bl b]
theorem hasBD_map (b : Bool) : ∀ bs : List Bool, hasBD (bs.map D.bl) b = decide (b ∈ bs)
  | [] => rfl
  | c :: bs => by
    rw [List.map_cons]
    show (c == b || hasBD (bs.map D.bl) b) = _
    rw [hasBD_map b bs]
    cases c <;> cases b <;> simp
theorem putBD_map (bs : List Bool) (b : Bool) : putBD (bs.map D.bl) b = (putB bs b).map D.bl := by
  unfold putBD putB
  rw [hasBD_map]
  by_cases z : b ∈ bs
  · rw [if_pos (decide_eq_true z), if_pos z]
  · rw [if_neg (by simpa using z), if_neg z, List.map_append]; rfl
def boolsOf : List D → Option (List Bool)
  | [] => some []
  | .bl b :: ds => (boolsOf ds).map (b :: ·)
  | _ :: _ => none
theorem boolsOf_map : ∀ bs : List Bool, boolsOf (bs.map D.bl) = some bs
  | [] => rfl
  | b :: bs => by
    rw [List.map_cons]
    show (boolsOf (bs.map D.bl)).map (b :: ·) = _
    rw [boolsOf_map bs]; rfl
def BRep (c : Cfg) (p : Addr) (o : HO) (ks : List D) : Prop := ∃ bs : List Bool, ks = bs.map D.bl ∧ ((o = .dK [] ∧ bs = []) ∨ o = dictB c.P c.w p bs)
theorem BRep.dict {c : Cfg} {p : Addr} {o : HO} {ks : List D} {H : Hp} (h : BRep c p o ks) (hp : H p = some o) : ∃ bs : List Bool, ks = bs.map D.bl ∧ BDict c.P c.w H p bs := by
  obtain ⟨bs, e, z⟩ := h
  rcases z with ⟨rfl, rfl⟩ | rfl
  · exact ⟨[], e, .none hp⟩
  · exact ⟨bs, e, .full hp⟩
def stpB (kx vx : Ex) : Stp := fun ρ ks vs => kx ρ >>= fun k => vx ρ >>= fun _ => match k with
  | .bl b => M.ret (putBD ks b, vs)
  | _ => M.fail
def bsortD (bs : List Bool) : List D := (isort (bs.map b2i)).map fun i => .bl (i == 1)
def oSortB (src : Sr) (b : Bd) (t : Tx) (kx vx : Ex) (vs : List Nat) : Ox := fun ρ => yDc src b t (stpB kx vx) vs ρ >>= fun r => match boolsOf r.1 with
  | some bs => M.ret (bsortD bs)
  | none => M.fail
/-- the one, or else the other -/
def orO (f g : Ox) : Ox := fun ρ T => match f ρ T with
  | .bad => g ρ T
  | r => r
theorem tO_or {c : Cfg} {W : WX} {f g : Ox} {σ : L2.St} {H : Hp} {Q : VK} (h : tO c W (orO f g) σ H Q) : tO c W f σ H Q ∨ tO c W g σ H Q := by
  obtain ⟨e, L, T, G, ρ, S, p⟩ := h
  unfold orO at p
  cases q : f ρ T with
  | bad => rw [q] at p; exact .inr ⟨e, L, T, G, ρ, S, p⟩
  | ok ds T' => rw [q] at p; exact .inl ⟨e, L, T, G, ρ, S, by rw [q]; exact p⟩
  | exn k T' => rw [q] at p; exact .inl ⟨e, L, T, G, ρ, S, by rw [q]; exact p⟩
theorem pe_or {X : Cx} {e : Expr} {t1 t2 : TE} (h1 : PE X e t1) (h2 : PE X e t2) : PE X e fun σ H Q => t1 σ H Q ∨ t2 σ H Q := ⟨fun pn s σ H Q I h => h.elim (h1.run pn s σ H Q I) (h2.run pn s σ H Q I)⟩
theorem repL_bools {c : Cfg} {L : List (List Addr)} {G : Hp} : ∀ bs : List Bool, RepL c L G (bs.map V.bl) (bs.map D.bl)
  | [] => .nil
  | b :: bs => .cons (.bl b) (repL_bools bs)
section
variable {c : Cfg} {e : Gh} {D0 : Addr} {b : Bd} {t : Tx} {stp : Stp} {is vs0 : List Nat} {σ : L2.St} {ρ : En} {J : It}
/-- one loop of a dict comprehension, its keys bools -/
theorem dloopB {L0 : List (List Addr)} {T0 T2 : List Cell} {G0 H1 : Hp} {o0 : HO} {ks0 vs0' KS VS xs : List D} {TR : L2.St → Hp → (Hp → Prop) → Prop} {END : Hp → Prop} (hb : BdOk b is) (hv : ∀ i ∈ is, i ∈ vs0) (ok : okW ρ vs0 = true)
    (S0 : Sta c (e.add (D0, o0)) L0 T0 G0 H1 σ ρ) (dr0 : BRep c D0 o0 ks0) (wk : Wk c L0 G0 J xs) (hrun : dcF (wipeE ρ vs0) b t stp xs ks0 vs0' T0 = .ok (KS, VS) T2)
    (hTR : ∀ (L : List (List Addr)) (T : List Cell) (G H : Hp) (σ2 : L2.St) (ρ2 : En) (o : HO) (ks vs ks' vs' : List D) (T' : List Cell) (Nx : Hp → Prop), Sta c (e.add (D0, o)) L T G H σ2 ρ2 → BRep c D0 o ks → stp ρ2 ks vs T = .ok (ks', vs') T' →
      (∀ (L' : List (List Addr)) (G' H' : Hp) (o' : HO), LE L L' → Same G G' → Sta c (e.add (D0, o')) L' T' G' H' σ2 ρ2 → BRep c D0 o' ks' → Nx H') → TR σ2 H Nx)
    (hE : ∀ (L : List (List Addr)) (G H : Hp) (o : HO), LE L0 L → Same G0 G → Sta c (e.add (D0, o)) L T2 G H σ ρ → BRep c D0 o KS → END H) :
    ∃ Z : Nat → Nat → Hp → Prop, (∃ m, Z 0 m H1) ∧ ∀ i m H, Z i m H → (J.stop i H ∧ END H) ∨ (J.go i H ∧ ∃ Nx : Hp → Prop, (∀ H', Nx H' → ∃ m', m' < m ∧ Z (i + 1) m' H') ∧ ∀ x H', J.yld i H x H' → gD c is b x (L2.wipe σ vs0) H' fun σ2 H2 => L2.wipe σ2 vs0 = L2.wipe σ vs0 ∧
      tT c W0 t σ2 H2 fun z H3 => if z = true then TR σ2 H3 Nx else Nx H3) := by
  refine ⟨fun i m H => m = xs.length - i ∧ i ≤ xs.length ∧ ∃ L T G o ks vs, Sta c (e.add (D0, o)) L T G H σ ρ ∧ LE L0 L ∧ Same G0 G ∧ BRep c D0 o ks ∧ dcF (wipeE ρ vs0) b t stp (xs.drop i) ks vs T = .ok (KS, VS) T2,
    ⟨xs.length, by simp, Nat.zero_le _, L0, T0, G0, o0, ks0, vs0', S0, LE.refl _, Same.refl _, dr0, by simpa using hrun⟩, ?_⟩
  rintro i m H ⟨rfl, hi, L, T, G, o, ks, vs, S, l1, g1, dr, hl⟩
  have w := wk _ L T G H σ ρ l1 g1 S i hi
  by_cases lt : i < xs.length
  · have hx : xs[i]? = some xs[i] := List.getElem?_eq_getElem lt
    obtain ⟨go, yl⟩ := w.1 _ hx
    rw [List.drop_eq_getElem_cons lt] at hl
    obtain ⟨ρ1, z, Tz, hb1, ht, alt⟩ := dcF_ok hl
    obtain ⟨bl, bo⟩ := hb _ _ _ hb1
    have bo' : ∀ j, j ∉ vs0 → ρ1[j]? = ρ[j]? := fun j hj => by rw [bo j fun z => hj (hv j z), wipeE_get, if_neg (fun q => hj q.1)]
    refine .inr ⟨go, fun H' => i + 1 ≤ xs.length ∧ ∃ L T G o ks vs, Sta c (e.add (D0, o)) L T G H' σ ρ ∧ LE L0 L ∧ Same G0 G ∧ BRep c D0 o ks ∧ dcF (wipeE ρ vs0) b t stp (xs.drop (i + 1)) ks vs T = .ok (KS, VS) T2, fun H' q => ⟨xs.length - (i + 1), by omega, rfl, q⟩, fun v H2 y => ?_⟩
    obtain ⟨G2, g2, S2, rv⟩ := yl v H2 y
    refine ⟨_, L, T, G2, wipeE ρ vs0, xs[i], S2.wipe vs0, rv, ?_⟩
    rw [hb1]
    intro σ1 S3 so
    have so' : ∀ j, j ∉ vs0 → σ1[j]? = σ[j]? := fun j hj => by rw [so j fun z => hj (hv j z), wipe_get, if_neg (fun q => hj q.1)]
    have sl : σ1.length = σ.length := by rw [S3.len, bl, wipeE_length, S2.len]
    refine ⟨wipe_eq sl so', _, L, T, G2, ρ1, S3, ?_⟩
    rw [ht]
    intro z' L3 G3 H3 l3 g3 S4 ez
    subst ez
    rcases alt with ⟨rfl, ⟨ks1, vs1⟩, T1, hs1, hr⟩ | ⟨rfl, hr⟩
    · rw [if_pos rfl]
      refine hTR L3 Tz G3 H3 σ1 ρ1 o ks vs ks1 vs1 T1 _ S4 dr hs1 fun L4 G4 H4 o4 l4 g4 S5 dr5 => ?_
      exact ⟨by omega, L4, T1, G4, o4, ks1, vs1, S2.backx S5 (l3.trans l4) (g3.trans g4) ok so' bo', l1.trans (l3.trans l4), g1.trans (g2.trans (g3.trans g4)), dr5, hr⟩
    · rw [if_neg (by simp)]
      exact ⟨by omega, L3, _, G3, o, ks, vs, S2.backx S4 l3 g3 ok so' bo', l1.trans l3, g1.trans (g2.trans g3), dr, hr⟩
  · have e1 : i = xs.length := by omega
    refine .inl ⟨w.2 (by simp [e1]), ?_⟩
    rw [e1, List.drop_length] at hl
    cases hl
    exact hE L G H o l1 g1 S dr
end
section
variable {c : Cfg} {e : Gh} {D0 : Addr} {L : List (List Addr)} {T T' : List Cell} {G H : Hp} {σ2 : L2.St} {ρ2 : En} {o : HO} {ks vs ks' vs' : List D} {kx vx : Ex} {Nx : Hp → Prop}
theorem trsetB_end (hx : ∀ q ∈ e.xo, q.1 ≠ D0) (S : Sta c (e.add (D0, o)) L T G H σ2 ρ2) (dr : BRep c D0 o ks) (hr : stpB kx vx ρ2 ks vs T = .ok (ks', vs') T')
    (K : ∀ (L' : List (List Addr)) (G' H' : Hp) (o' : HO), LE L L' → Same G G' → Sta c (e.add (D0, o')) L' T' G' H' σ2 ρ2 → BRep c D0 o' ks' → Nx H') : trSetB c.P c.w (tD c W0 kx) (tD c W0 vx) D0 σ2 H Nx := by
  obtain ⟨k, T1, h1, h2⟩ := bind_ok hr
  obtain ⟨v, T3, h3, h4⟩ := bind_ok h2
  cases k with
  | bl b =>
    have e1 : (putBD ks b, vs) = (ks', vs') := by injection h4
    have e2 : T3 = T' := by injection h4
    subst e2
    injection e1 with e3 e4
    refine ⟨_, L, T, G, ρ2, S, ?_⟩
    rw [h1]
    intro y L3 G3 H3 l3 g3 S3 ry
    refine ⟨_, L3, T1, G3, ρ2, S3, ?_⟩
    rw [h3]
    intro zz L4 G4 H4 l4 g4 S4 rz
    have ey : y = .bl b := by cases ry; rfl
    obtain ⟨bs, ek, bd⟩ := dr.dict S4.hadx.1
    refine ⟨_, ⟨bs, b, ey, bd, rfl⟩, K L4 G4 _ _ (l3.trans l4) (g3.trans g4) (S4.setx hx) ⟨putB bs b, ?_, .inr rfl⟩⟩
    rw [← e3, ek, putBD_map]
  | _ => cases h4
end
section
variable {c : Cfg} {W : WX} {src : Sr} {b : Bd} {t : Tx} {kx vx : Ex} {is vs : List Nat} {σ : L2.St} {H : Hp} {Q : VK}
theorem dcB_end (hb : BdOk b is) (hv : ∀ i ∈ is, i ∈ vs) (q : tO c W (oSortB src b t kx vx vs) σ H Q) : tDcG (tI c W src) (gD c is b) (tT c W0 t) (trSetB c.P c.w (tD c W0 kx) (tD c W0 vx)) vs σ H fun x H1 => rSortDB c.P c.w [x] H1 Q := by
  obtain ⟨e, L, T, G, ρ, S, p⟩ := q
  refine ⟨e, L, T, G, ρ, S, ?_⟩
  unfold oSortB yDc at p
  by_cases ok : okW ρ vs = true
  · rw [if_pos ok] at p
    cases hr : src ρ T with
    | bad => rw [bnd_bad (bnd_bad hr)] at p; exact p
    | exn k T' => rw [bnd_exn (bnd_exn hr)] at p; exact p
    | ok xs T0 =>
      intro J L0 G0 H0 l0 g0 S0 wk hz D hD
      cases hr2 : noX (dcF (wipeE ρ vs) b t (stpB kx vx) xs [] []) T0 with
      | bad => rw [bnd_bad ((bnd_ok hr).trans hr2)] at p; exact p.elim
      | exn k T' => unfold noX at hr2; cases q2 : dcF (wipeE ρ vs) b t (stpB kx vx) xs [] [] T0 <;> rw [q2] at hr2 <;> cases hr2
      | ok r T2 =>
        rw [bnd_ok ((bnd_ok hr).trans hr2)] at p
        have all := noX_ok hr2
        have nx := S0.notx hD
        have S1 : Sta c (e.add (D, .dK [])) L0 T0 G0 (upd H0 D (.dK [])) σ ρ := (S0.grow hD).addx upd_same (S0.gnone hD) (S0.notcell hD) (S0.notcell0 hD) (S0.h0none hD (S0.notcell hD) (S0.notcell0 hD)) (S0.notslot hD)
        refine dloopB (END := fun H => rSortDB c.P c.w [.ref D] H Q) hb hv ok S1 ⟨[], rfl, .inl ⟨rfl, rfl⟩⟩ wk all (fun L T G H σ2 ρ2 o ks vs ks' vs' T' Nx S dr hr K => trsetB_end nx S dr hr K) fun L4 G4 H4 o4 l4 g4 S4 dr4 => ?_
        obtain ⟨bs, ek, bd⟩ := dr4.dict S4.hadx.1
        refine ⟨D, bs, rfl, bd, fun ms a pm st l2 ha => ?_⟩
        rw [ek, boolsOf_map] at p
        have e1 : bsortD bs = ms.map WW.D.bl := by
          unfold bsortD
          have : isort (bs.map b2i) = ms.map b2i := (sorted_uniq ((pm.map b2i).trans (isort_perm _).symm) st (isort_sorted _)).symm
          rw [this, List.map_map]
          exact List.map_congr_left fun x _ => by cases x <;> rfl
        have p2 : ∀ p L' G' H', LE L L' → Same G G' → Sta c e L' T2 G' H' σ ρ → FreshL c e L' G' H' σ ρ p (bsortD bs) → Q (.ref p) H' := p
        rw [e1] at p2
        exact p2 a L4 G4 _ (l0.trans l4) (g0.trans g4) (S4.delx.grow ha) (S4.delx.fresh ha (repL_bools ms) (by rw [List.length_map]; exact Nat.le_trans l2 (by decide)))
  · rw [if_neg ok] at p; exact p.elim
end
def oSortDC (src : Sr) (b : Bd) (t : Tx) (kx vx : Ex) (vs : List Nat) : Ox := orO (oCall (F1 sortA) [dOwnD (yDc src b t (stp1 kx vx) vs)]) (oSortB src b t kx vx vs)
section
variable {X : Cx} {c : Cfg} {W : WX} {k : Nat} {src : Sr} {b : Bd} {t : Tx} {fk fv : Ex} {is : List Nat} {kx vx tg it : Expr} {ifs : List Expr} {scope : Scope} {pos p dpos : Pos}
/-- sorted({k: v for tg in it if ..}) -/
theorem do_sortDC (own : List (Str × Nat)) (h : Ctx X c W k) (hi : PI X tg it (tI c W src)) (ok : BlkOk X.N X.env.scope scope own) (hb : BdOk b is) (hv : ∀ i ∈ is, i ∈ own.map (·.2))
    (hin : ∀ (s : Shared) (H : Hp) (C : Addr) (cl : List (Str × Addr)) (fp : List Addr), Ctx (X.blk s H scope (compEnvC scope cl C X.env) fp) c W0 k →
      PG (X.blk s H scope (compEnvC scope cl C X.env) fp) tg (gD c is b) ∧ PTs (X.blk s H scope (compEnvC scope cl C X.env) fp) ifs (tT c W0 t) ∧ PE (X.blk s H scope (compEnvC scope cl C X.env) fp) kx (tD c W0 fk) ∧ PE (X.blk s H scope (compEnvC scope cl C X.env) fp) vx (tD c W0 fv))
    (hs : ∀ x, foldedSetIterable it X.env x = pure x := by intro _; rfl) (ns : NS (.DictComp kx vx [⟨tg, it, ifs, 0⟩] scope dpos) := by intro _ _; rfl) (hg : Gl X "sorted" := by rfl) : PE X (.Call (.Name "sorted" p) [.DictComp kx vx [⟨tg, it, ifs, 0⟩] scope dpos] [] pos) (tO c W (oSortDC src b t fk fv (own.map (·.2)))) := by
  have B := pe_callB (pos := pos) (p := p) (cr_sortDB h.calm) hg h.bl.sorted (by decide +kernel) (pa_cons (pe_dcB (pos := dpos) (own := own) h.calm h.nd hi ok (fun s H C cl fp => (hin s H C cl fp (h.blk ..)).1) (fun s H C cl fp => (hin s H C cl fp (h.blk ..)).2.1) (fun s H C cl fp => (hin s H C cl fp (h.blk ..)).2.2.1) (fun s H C cl fp => (hin s H C cl fp (h.blk ..)).2.2.2) hs) pa_nil (ns _ _)) (he := ns _ _)
  refine (pe_or (do_sortA h (de_ownD (dy_dc own h hi ok hb hv hin hs)) ns hg) B).imp fun σ H Q q => ?_
  rcases tO_or q with q | q
  · exact .inl q
  · refine .inr ?_
    rw [h.hP, h.hw]
    exact dcB_end hb hv q
end
end WW
set_option maxHeartbeats 4000000
namespace WP
open PySem PySem.Spec L2 WW
def g_WORDS : List D := [.str "at", .str "not", .str "saw", .str "missed", .str "alone", .str "heard"]
def b_is_whole : Sx :=
 (sRet (dAnd (d1 (isiD "int") (dVar 0)) (dAnd (dNot (d1 (isiD "bool") (dVar 0))) (dChain leM leM (dVar 1) (dVar 0) (dVar 2)))))
def F_is_whole : List D → M D := runB 3 b_is_whole
def b_are_pairs : Sx :=
 (sSeq (sIf (tOrX (tNotX (tVal (d1 (isiD "tuple") (dVar 0)))) (tNotX (tVal (dCall (F1 allM) [(dOwn (oLc (iSeq (dVar 0)) (bName 4) tAll (dAnd (d1 (isiD "tuple") (dVar 4)) (d2 eqM (dCall (F1 lenM) [(dVar 4)]) (dC (.int 2)))) [4]))]))))
 (sRet (dC (.bl false)))
 sNil)
 (sSeq (sIf (tNotX (tVal (dCall (F1 allM) [(dOwn (oLc (iSeq (dVar 0)) (bName 4) tAll (dAnd (dCall WP.F_is_whole [(d2 ixM (dVar 4) (dC (.int 0))), (dC (.int 0)), (d2 subM (dVar 1) (dC (.int 1)))]) (dCall WP.F_is_whole [(d2 ixM (dVar 4) (dC (.int 1))), (dC (.int 0)), (d2 subM (dVar 2) (dC (.int 1)))])) [4]))])))
 (sRet (dC (.bl false)))
 sNil)
 (sRet (dCall (F1 allM) [(dOwn (oLc (iCall rng1M [(d2 subM (dCall (F1 lenM) [(dVar 0)]) (dC (.int 1)))]) (bName 3) tAll (d2 ltM (d2 ixM (dVar 0) (dVar 3)) (d2 ixM (dVar 0) (d2 addM (dVar 3) (dC (.int 1))))) [3]))]))))
def F_are_pairs : List D → M D := runB 5 b_are_pairs
def b_is_house : Sx :=
 (sSeq (sIf (tOrX (tNotX (tVal (d1 (isiD "tuple") (dVar 0)))) (tOrX (tVal (d2 neM (dCall (F1 lenM) [(dVar 0)]) (dC (.int 5)))) (tNotX (tVal (dCall WP.F_is_whole [(d2 ixM (dVar 0) (dC (.int 0))), (dC (.int 1)), (dC (.int 6))])))))
 (sRet (dC (.bl false)))
 sNil)
 (sSeq (sUnp [1, 2, 3, 4, 5] (dVar 0))
 (sSeq (sIf (tOrX (tNotX (tVal (dCall WP.F_are_pairs [(dVar 2), (dVar 1), (dVar 1)]))) (tVal (dCall (F1 anyM) [(dOwn (oLc (iSeq (dVar 2)) (bTup [6, 7]) tAll (d2 geM (dVar 6) (dVar 7)) [6, 7]))])))
 (sRet (dC (.bl false)))
 sNil)
 (sSeq (sIf (tNotX (tVal (dCall WP.F_is_whole [(dVar 3), (dC (.int 0)), (dC (.int 12))])))
 (sRet (dC (.bl false)))
 sNil)
 (sRet (dAnd (dCall WP.F_are_pairs [(dVar 4), (d2 addM (dVar 3) (dC (.int 1))), (dCall (F1 lenM) [(dVar 2)])]) (dCall WP.F_are_pairs [(dVar 5), (d2 addM (dVar 3) (dC (.int 1))), (dVar 1)])))))))
def F_is_house : List D → M D := runB 8 b_is_house
def b_look_house : Sx :=
 (sIf (tOrX (tNotX (tVal (dCall WP.F_is_house [(dVar 0)]))) (tNotX (tVal (dCall WP.F_is_whole [(dVar 1), (dC (.int 1)), (dC (.int 4))]))))
 (sRaise 1)
 sNil)
def F_look_house : List D → M D := runB 2 b_look_house
def b_look_beat : Sx :=
 (sIf (tNotX (tVal (dCall WP.F_is_whole [(dVar 1), (dC (.int 0)), (d2 ixM (dVar 0) (dC (.int 2)))])))
 (sRaise 3)
 sNil)
def F_look_beat : List D → M D := runB 2 b_look_beat
def b_look_room : Sx :=
 (sIf (tNotX (tVal (dCall WP.F_is_whole [(dVar 1), (dC (.int 0)), (d2 subM (d2 ixM (dVar 0) (dC (.int 0))) (dC (.int 1)))])))
 (sRaise 4)
 sNil)
def F_look_room : List D → M D := runB 2 b_look_room
def b_open_doors : Sx :=
 (sRet (dOwn (oLc (iCall enumM [(d2 ixM (dVar 0) (dC (.int 1)))]) (bTup [2, 3]) (tVal (d2 (inM true) (dTup [(dVar 1), (dVar 2)]) (d2 ixM (dVar 0) (dC (.int 3))))) (dVar 3) [2, 3])))
def F_open_doors : List D → M D := runB 4 b_open_doors
def b_beside : Sx :=
 (sSeq (sSetO 3 (oLst []))
 (sSeq (sFor (iSeq (dCall WP.F_open_doors [(dVar 0), (dVar 2)])) (bTup [4, 5])
 (sIf (tVal (d2 (inM false) (dVar 1) (dTup [(dVar 4), (dVar 5)])))
 (sApp 3 (d2 subM (d2 addM (dVar 4) (dVar 5)) (dVar 1)))
 sNil))
 (sFrz 3 (sRet (dOwn (oCall (F1 sortA) [(dVar 3)]))))))
def F_beside : List D → M D := runB 6 b_beside
def b_next_rooms : Sx :=
 (sSeq (sExpr (dCall WP.F_look_house [(dVar 0), (dC (.int 1))]))
 (sSeq (sExpr (dCall WP.F_look_room [(dVar 0), (dVar 1)]))
 (sSeq (sExpr (dCall WP.F_look_beat [(dVar 0), (dVar 2)]))
 (sRet (dOwn (oCall (F1 sortA) [(d2 addM (dOwn (oLst [(dVar 1)])) (dCall WP.F_beside [(dVar 0), (dVar 1), (dVar 2)]))]))))))
def F_next_rooms : List D → M D := runB 3 b_next_rooms
def b_is_stand : Sx :=
 (sRet (dAnd (d1 (isiD "tuple") (dVar 2)) (dAnd (d2 eqM (dCall (F1 lenM) [(dVar 2)]) (dVar 1)) (dCall (F1 allM) [(dOwn (oLc (iSeq (dVar 2)) (bName 3) tAll (dCall WP.F_is_whole [(dVar 3), (dC (.int 0)), (d2 subM (d2 ixM (dVar 0) (dC (.int 0))) (dC (.int 1)))]) [3]))]))))
def F_is_stand : List D → M D := runB 4 b_is_stand
def b_is_claim : Sx :=
 (sSeq (sIf (tOrX (tNotX (tVal (d1 (isiD "tuple") (dVar 2)))) (tOrX (tVal (d2 neM (dCall (F1 lenM) [(dVar 2)]) (dC (.int 4)))) (tOrX (tNotX (tVal (d1 (isiD "str") (d2 ixM (dVar 2) (dC (.int 0)))))) (tVal (d2 (inM true) (d2 ixM (dVar 2) (dC (.int 0))) (dC (.tup WP.g_WORDS)))))))
 (sRet (dC (.bl false)))
 sNil)
 (sSeq (sUnp [3, 4, 5, 6] (dVar 2))
 (sSeq (sIf (tOrX (tNotX (tVal (dCall WP.F_is_whole [(dVar 4), (dC (.int 0)), (d2 subM (dVar 1) (dC (.int 1)))]))) (tNotX (tVal (dCall WP.F_is_whole [(dVar 5), (dC (.int 0)), (d2 ixM (dVar 0) (dC (.int 2)))]))))
 (sRet (dC (.bl false)))
 sNil)
 (sSeq (sIf (tVal (d2 (inM false) (dVar 3) (dTup [(dC (.str "at")), (dC (.str "not"))])))
 (sRet (dCall WP.F_is_whole [(dVar 6), (dC (.int 0)), (d2 subM (d2 ixM (dVar 0) (dC (.int 0))) (dC (.int 1)))]))
 sNil)
 (sSeq (sIf (tVal (d2 (inM false) (dVar 3) (dTup [(dC (.str "alone")), (dC (.str "heard"))])))
 (sRet (d2 (isM false) (dVar 6) (dC .non)))
 sNil)
 (sRet (dAnd (dCall WP.F_is_whole [(dVar 6), (dC (.int 0)), (d2 subM (dVar 1) (dC (.int 1)))]) (d2 neM (dVar 6) (dVar 4)))))))))
def F_is_claim : List D → M D := runB 7 b_is_claim
def b_holds : Sx :=
 (sSeq (sUnp [5, 6, 7, 8] (dVar 2))
 (sSeq (sSet 3 (d2 ixM (dVar 1) (dVar 6)))
 (sSeq (sIf (tVal (d2 eqM (dVar 5) (dC (.str "at"))))
 (sRet (d2 eqM (dVar 3) (dVar 8)))
 sNil)
 (sSeq (sIf (tVal (d2 eqM (dVar 5) (dC (.str "not"))))
 (sRet (d2 neM (dVar 3) (dVar 8)))
 sNil)
 (sSeq (sIf (tVal (d2 eqM (dVar 5) (dC (.str "saw"))))
 (sRet (dAnd (d2 eqM (d2 ixM (dVar 1) (dVar 8)) (dVar 3)) (d2 (inM true) (dTup [(dVar 7), (dVar 3)]) (d2 ixM (dVar 0) (dC (.int 4))))))
 sNil)
 (sSeq (sIf (tVal (d2 eqM (dVar 5) (dC (.str "missed"))))
 (sRet (d2 neM (d2 ixM (dVar 1) (dVar 8)) (dVar 3)))
 sNil)
 (sSeq (sSet 4 (dOwn (oLc (iCall rng1M [(dCall (F1 lenM) [(dVar 1)])]) (bName 9) (tVal (d2 neM (dVar 9) (dVar 6))) (d2 ixM (dVar 1) (dVar 9)) [9])))
 (sSeq (sIf (tVal (d2 eqM (dVar 5) (dC (.str "alone"))))
 (sRet (d2 (inM true) (dVar 3) (dVar 4)))
 sNil)
 (sRet (dCall (F1 anyM) [(dOwn (oLc (iSeq (dCall WP.F_beside [(dVar 0), (dVar 3), (dVar 7)])) (bName 9) tAll (d2 (inM false) (dVar 9) (dVar 4)) [9]))]))))))))))
def F_holds : List D → M D := runB 10 b_holds
def b_is_so : Sx :=
 (sSeq (sExpr (dCall WP.F_look_house [(dVar 0), (dVar 1)]))
 (sSeq (sIf (tNotX (tVal (dCall WP.F_is_stand [(dVar 0), (dVar 1), (dVar 2)])))
 (sRaise 4)
 sNil)
 (sSeq (sIf (tNotX (tVal (dCall WP.F_is_claim [(dVar 0), (dVar 1), (dVar 3)])))
 (sRaise 5)
 sNil)
 (sRet (dCall WP.F_holds [(dVar 0), (dVar 2), (dVar 3)])))))
def F_is_so : List D → M D := runB 4 b_is_so
def b__law_pick : Sx :=
 (sRet (d2 ixM (dVar 1) (dCall drawM [(dVar 0), (dCall (F1 lenM) [(dVar 1)])])))
def F__law_pick : List D → M D := runB 2 b__law_pick
def b__law_is : Sx :=
 (sRet (dAnd (d1 (isiD "bool") (dVar 0)) (d2 eqM (dVar 0) (dVar 1))))
def F__law_is : List D → M D := runB 2 b__law_is
def b__law_house : Sx :=
 (sSeq (sSetO 3 (oLc (iCall rng1M [(d2 subM (dVar 1) (dC (.int 1)))]) (bName 7) (tVal (d2 gtM (dCall drawM [(dVar 0), (dC (.int 8))]) (dC (.int 0)))) (dTup [(dVar 7), (d2 addM (dVar 7) (dC (.int 1)))]) [7]))
 (sSeq (sIf (tAndX (tVal (d2 gtM (dVar 1) (dC (.int 2)))) (tVal (d2 eqM (dCall drawM [(dVar 0), (dC (.int 3))]) (dC (.int 0)))))
 (sFrz 3 (sSet 3 (d2 addM (dOwn (oLst [(dTup [(dC (.int 0)), (d2 subM (dVar 1) (dC (.int 1)))])])) (dVar 3))))
 sNil)
 (sSeq (sFrz 3 (sSet 3 (dOwn (oCall (F1 sortA) [(dVar 3)]))))
 (sSeq (sSet 4 (dOwn (oLst [])))
 (sSeq (sFor (iCall rng1M [(d2 addM (dVar 2) (dC (.int 1)))]) (bName 5)
 (sSet 4 (d2 addM (dVar 4) (dOwn (oLc (iCall rng1M [(dCall (F1 lenM) [(dVar 3)])]) (bName 7) (tVal (d2 eqM (dCall drawM [(dVar 0), (dC (.int 4))]) (dC (.int 0)))) (dTup [(dVar 5), (dVar 7)]) [7])))))
 (sSeq (sSet 6 (dOwn (oLst [])))
 (sSeq (sFor (iCall rng1M [(d2 addM (dVar 2) (dC (.int 1)))]) (bName 5)
 (sSet 6 (d2 addM (dVar 6) (dOwn (oLc (iCall rng1M [(dVar 1)]) (bName 7) (tVal (d2 eqM (dCall drawM [(dVar 0), (dC (.int 6))]) (dC (.int 0)))) (dTup [(dVar 5), (dVar 7)]) [7])))))
 (sRet (dTup [(dVar 1), (dCall (F1 tupleM) [(dVar 3)]), (dVar 2), (dCall (F1 tupleM) [(dVar 4)]), (dCall (F1 tupleM) [(dVar 6)])])))))))))
def F__law_house : List D → M D := runB 8 b__law_house
def b__law_side : Sx :=
 (sSeq (sSetO 3 (oLst []))
 (sSeq (sFor (iCall rng1M [(dCall (F1 lenM) [(d2 ixM (dVar 0) (dC (.int 1)))])]) (bName 4)
 (sSeq (sUnp [5, 6] (d2 ixM (d2 ixM (dVar 0) (dC (.int 1))) (dVar 4)))
 (sIf (tAndX (tVal (d2 (inM true) (dTup [(dVar 2), (dVar 4)]) (d2 ixM (dVar 0) (dC (.int 3))))) (tVal (d2 (inM false) (dVar 1) (dTup [(dVar 5), (dVar 6)]))))
 (sApp 3 (d2 subM (d2 addM (dVar 5) (dVar 6)) (dVar 1)))
 sNil)))
 (sFrz 3 (sRet (dVar 3)))))
def F__law_side : List D → M D := runB 7 b__law_side
def b__law_so : Sx :=
 (sSeq (sUnp [5, 6, 7, 8] (dVar 2))
 (sSeq (sSet 3 (d2 ixM (dVar 1) (dVar 6)))
 (sSeq (sIf (tVal (d2 (inM false) (dVar 5) (dTup [(dC (.str "at")), (dC (.str "not"))])))
 (sRet (d2 eqM (d2 eqM (dVar 3) (dVar 8)) (d2 eqM (dVar 5) (dC (.str "at")))))
 sNil)
 (sSeq (sIf (tVal (d2 eqM (dVar 5) (dC (.str "saw"))))
 (sRet (dAnd (d2 eqM (d2 ixM (dVar 1) (dVar 8)) (dVar 3)) (d2 (inM true) (dTup [(dVar 7), (dVar 3)]) (d2 ixM (dVar 0) (dC (.int 4))))))
 sNil)
 (sSeq (sIf (tVal (d2 eqM (dVar 5) (dC (.str "missed"))))
 (sRet (d2 neM (d2 ixM (dVar 1) (dVar 8)) (dVar 3)))
 sNil)
 (sSeq (sSet 4 (dOwn (oLc (iCall rng1M [(dCall (F1 lenM) [(dVar 1)])]) (bName 9) (tVal (d2 neM (dVar 9) (dVar 6))) (d2 ixM (dVar 1) (dVar 9)) [9])))
 (sSeq (sIf (tVal (d2 eqM (dVar 5) (dC (.str "alone"))))
 (sRet (d2 (inM true) (dVar 3) (dVar 4)))
 sNil)
 (sRet (d2 neM (dOwn (oLc (iSeq (dCall WP.F__law_side [(dVar 0), (dVar 3), (dVar 7)])) (bName 9) (tVal (d2 (inM false) (dVar 9) (dVar 4))) (dVar 9) [9])) (dOwn (oLst [])))))))))))
def F__law_so : List D → M D := runB 10 b__law_so
def b__law_claim : Sx :=
 (sSeq (sSet 3 (dCall WP.F__law_pick [(dVar 0), (dOwn (oLst [(dC (.str "at")), (dC (.str "not")), (dC (.str "saw")), (dC (.str "missed")), (dC (.str "alone")), (dC (.str "heard"))]))]))
 (sSeq (sUnp [4, 5] (dTup [(dCall drawM [(dVar 0), (dVar 2)]), (dCall drawM [(dVar 0), (d2 addM (d2 ixM (dVar 1) (dC (.int 2))) (dC (.int 1)))])]))
 (sSeq (sIf (tVal (d2 (inM false) (dVar 3) (dTup [(dC (.str "at")), (dC (.str "not"))])))
 (sRet (dTup [(dVar 3), (dVar 4), (dVar 5), (dCall drawM [(dVar 0), (d2 ixM (dVar 1) (dC (.int 0)))])]))
 sNil)
 (sSeq (sIf (tOrX (tVal (d2 (inM false) (dVar 3) (dTup [(dC (.str "alone")), (dC (.str "heard"))]))) (tVal (d2 eqM (dVar 2) (dC (.int 1)))))
 (sRet (dTup [(dIf (tVal (d2 eqM (dVar 2) (dC (.int 1)))) (dC (.str "alone")) (dVar 3)), (dVar 4), (dVar 5), (dC .non)]))
 sNil)
 (sRet (dTup [(dVar 3), (dVar 4), (dVar 5), (dCall WP.F__law_pick [(dVar 0), (dOwn (oLc (iCall rng1M [(dVar 2)]) (bName 6) (tVal (d2 neM (dVar 6) (dVar 4))) (dVar 6) [6]))])]))))))
def F__law_claim : List D → M D := runB 7 b__law_claim
def b_look_folk : Sx :=
 (sSeq (sIf (tOrX (tNotX (tVal (d1 (isiD "tuple") (dVar 1)))) (tNotX (tVal (dCall (F1 allM) [(dOwn (oLc (iSeq (dVar 1)) (bName 3) tAll (dCall WP.F_is_whole [(dVar 3), (dC (.int 0)), (d2 subM (dVar 0) (dC (.int 1)))]) [3]))]))))
 (sRaise 2)
 sNil)
 (sIf (tVal (dCall (F1 anyM) [(dOwn (oLc (iCall rng1M [(d2 subM (dCall (F1 lenM) [(dVar 1)]) (dC (.int 1)))]) (bName 2) tAll (d2 geM (d2 ixM (dVar 1) (dVar 2)) (d2 ixM (dVar 1) (d2 addM (dVar 2) (dC (.int 1))))) [2]))]))
 (sRaise 2)
 sNil))
def F_look_folk : List D → M D := runB 4 b_look_folk
def b_stands : Sx :=
 (sSeq (sSet 2 (dOwn (oLst [(dTup [])])))
 (sSeq (sFor (iCall rng1M [(dVar 1)]) (bName 3)
 (sFrz 2 (sSetO 2 (oLc2 (iSeq (dVar 2)) (bName 4) tAll (iCall rng1M [(d2 ixM (dVar 0) (dC (.int 0)))]) (bName 5) tAll (d2 addM (dVar 4) (dTup [(dVar 5)])) [4, 5] [5]))))
 (sFrz 2 (sRet (dVar 2)))))
def F_stands : List D → M D := runB 6 b_stands
def b_is_binding : Sx :=
 (sSeq (sIf (tOrX (tNotX (tVal (d1 (isiD "tuple") (dVar 2)))) (tOrX (tVal (d2 neM (dCall (F1 lenM) [(dVar 2)]) (dC (.int 2)))) (tNotX (tVal (dCall WP.F_is_claim [(dVar 0), (dVar 1), (d2 ixM (dVar 2) (dC (.int 1)))])))))
 (sRet (dC (.bl false)))
 sNil)
 (sRet (dOr (d2 (isM false) (d2 ixM (dVar 2) (dC (.int 0))) (dC .non)) (dCall WP.F_is_whole [(d2 ixM (dVar 2) (dC (.int 0))), (dC (.int 0)), (d2 subM (dVar 1) (dC (.int 1)))]))))
def F_is_binding : List D → M D := runB 3 b_is_binding
def b_book_fits : Sx :=
 (sSeq (sIf (tOrX (tNotX (tVal (d1 (isiD "list") (dVar 2)))) (tVal (d2 gtM (dCall (F1 lenM) [(dVar 2)]) (dC (.int 30)))))
 (sRet (dC (.bl false)))
 sNil)
 (sRet (dCall (F1 allM) [(dOwn (oLc (iSeq (dVar 2)) (bName 3) tAll (dCall WP.F_is_binding [(dVar 0), (dVar 1), (dVar 3)]) [3]))])))
def F_book_fits : List D → M D := runB 4 b_book_fits
def b_look_book : Sx :=
 (sSeq (sExpr (dCall WP.F_look_house [(dVar 0), (dVar 1)]))
 (sIf (tNotX (tVal (dCall WP.F_book_fits [(dVar 0), (dVar 1), (dVar 2)])))
 (sRaise 5)
 sNil))
def F_look_book : List D → M D := runB 3 b_look_book
def b_look_case : Sx :=
 (sSeq (sExpr (dCall WP.F_look_book [(dVar 0), (dVar 1), (dVar 2)]))
 (sExpr (dCall WP.F_look_folk [(dVar 1), (dVar 3)])))
def F_look_case : List D → M D := runB 4 b_look_case
def b_claims_of : Sx :=
 (sRet (dOwn (oLc (iSeq (dVar 0)) (bTup [2, 3]) (tVal (d2 (inM true) (dVar 2) (dVar 1))) (dVar 3) [2, 3])))
def F_claims_of : List D → M D := runB 4 b_claims_of
def b_let_at : Sx :=
 (sSeq (sSet 4 (dOwn (oLc (iSeq (dVar 2)) (bName 5) (tVal (d2 eqM (d2 ixM (dVar 5) (dC (.int 2))) (dVar 3))) (dVar 5) [5])))
 (sRet (dOwn (oLc (iSeq (dCall WP.F_stands [(dVar 0), (dVar 1)])) (bName 6) (tVal (dCall (F1 allM) [(dOwn (oLc (iSeq (dVar 4)) (bName 5) tAll (dCall WP.F_holds [(dVar 0), (dVar 6), (dVar 5)]) [5]))])) (dVar 6) [6]))))
def F_let_at : List D → M D := runB 7 b_let_at
def b_led : Sx :=
 (sSeq (sSet 3 (dVar 1))
 (sSeq (sSet 4 (dOwn (oLc (iCall rng1M [(d2 ixM (dVar 0) (dC (.int 0)))]) (bName 6) tAll (d2 addM (dOwn (oLst [(dVar 6)])) (dCall WP.F_beside [(dVar 0), (dVar 6), (dVar 2)])) [6])))
 (sSeq (sFor (iCall rng1M [(dCall (F1 maxM) [(d2 addM (dOwn (oLst [(dC (.int 0))])) (dOwn (oLc (iSeq (dVar 1)) (bName 7) tAll (dCall (F1 lenM) [(dVar 7)]) [7])))])]) (bName 5)
 (sFrz 3 (sSetD 3 (yDc (iSeq (dVar 3)) (bName 7) tAll (stp2 (iSeq (d2 ixM (dVar 4) (d2 ixM (dVar 7) (dVar 5)))) (bName 6) tAll (d2 addM (d2 addM (dSl (dVar 7) pNo (pIn (dVar 5))) (dTup [(dVar 6)])) (dSl (dVar 7) (pIn (d2 addM (dVar 5) (dC (.int 1)))) pNo)) (dC (.bl true)) [6]) [7, 6]))))
 (sFrz 3 (sRet (dVar 3))))))
def F_led : List D → M D := runB 8 b_led
def b_ahead_lots : Sx :=
 (sSeq (sSetO 3 (oLst []))
 (sSeq (sSet 4 (dOwnD (yDc (iSeq (dCall WP.F_stands [(dVar 0), (dVar 1)])) (bName 7) tAll (stp1 (dVar 7) (dC (.bl true))) [7])))
 (sSeq (sFor (iCall rng1M [(d2 addM (d2 ixM (dVar 0) (dC (.int 2))) (dC (.int 1)))]) (bName 5)
 (sSeq (sSet 6 (dCall WP.F_let_at [(dVar 0), (dVar 1), (dVar 2), (dVar 5)]))
 (sSeq (sApp 3 (dOwnD (yDc (iSeq (dVar 6)) (bName 7) (tVal (d2 (inM false) (dVar 7) (dVar 4))) (stp1 (dVar 7) (dC (.bl true))) [7])))
 (sSet 4 (dCall WP.F_led [(dVar 0), (dAtO 3 (d1 negM (dC (.int 1)))), (dVar 5)])))))
 (sFrz 3 (sRet (dVar 3))))))
def F_ahead_lots : List D → M D := runB 8 b_ahead_lots
def b_behind_lots : Sx :=
 (sSeq (sSetO 3 (oLst []))
 (sSeq (sSet 4 (dOwnD (yDc (iSeq (dCall WP.F_stands [(dVar 0), (dVar 1)])) (bName 7) tAll (stp1 (dVar 7) (dC (.bl true))) [7])))
 (sSeq (sFor (iCall rng3M [(d2 ixM (dVar 0) (dC (.int 2))), (d1 negM (dC (.int 1))), (d1 negM (dC (.int 1)))]) (bName 5)
 (sSeq (sSet 6 (dCall WP.F_let_at [(dVar 0), (dVar 1), (dVar 2), (dVar 5)]))
 (sSeq (sApp 3 (dOwnD (yDc (iSeq (dVar 6)) (bName 7) (tVal (d2 (inM false) (dVar 7) (dVar 4))) (stp1 (dVar 7) (dC (.bl true))) [7])))
 (sSet 4 (dCall WP.F_led [(dVar 0), (dAtO 3 (d1 negM (dC (.int 1)))), (d2 subM (dVar 5) (dC (.int 1)))])))))
 (sFrz 3 (sRet (d1 revM (dVar 3)))))))
def F_behind_lots : List D → M D := runB 8 b_behind_lots
def b_met_lots : Sx :=
 (sSeq (sSet 3 (dCall WP.F_ahead_lots [(dVar 0), (dVar 1), (dVar 2)]))
 (sSeq (sSet 4 (dCall WP.F_behind_lots [(dVar 0), (dVar 1), (dVar 2)]))
 (sRet (dOwn (oLc (iCall rng1M [(dCall (F1 lenM) [(dVar 3)])]) (bName 5) tAll (dOwn (oCall (F1 sortA) [(dOwn (oLc (iSeq (d2 ixM (dVar 3) (dVar 5))) (bName 6) (tVal (d2 (inM false) (dVar 6) (d2 ixM (dVar 4) (dVar 5)))) (dVar 6) [6]))])) [5])))))
def F_met_lots : List D → M D := runB 7 b_met_lots
def b_is_step : Sx :=
 (sSeq (sSet 4 (dOwn (oCall zipM [(dVar 1), (dVar 2)])))
 (sRet (dCall (F1 allM) [(dOwn (oLc (iSeq (dVar 4)) (bTup [5, 6]) tAll (dOr (d2 eqM (dVar 5) (dVar 6)) (d2 (inM false) (dVar 6) (dCall WP.F_beside [(dVar 0), (dVar 5), (dVar 3)]))) [5, 6]))])))
def F_is_step : List D → M D := runB 7 b_is_step
def b_first_of : Sx :=
 (sSeq (sSet 3 (dCall WP.F_met_lots [(dVar 0), (dVar 1), (dVar 2)]))
 (sSeq (sIf (tVal (d2 eqM (d2 ixM (dVar 3) (dC (.int 0))) (dOwn (oLst []))))
 (sRet (dC .non))
 sNil)
 (sSeq (sSetO 4 (oLst [(d2 ixM (d2 ixM (dVar 3) (dC (.int 0))) (dC (.int 0)))]))
 (sSeq (sFor (iCall rng2M [(dC (.int 1)), (dCall (F1 lenM) [(dVar 3)])]) (bName 5)
 (sApp 4 (d2 ixM (dOwn (oLc (iSeq (d2 ixM (dVar 3) (dVar 5))) (bName 6) (tVal (dCall WP.F_is_step [(dVar 0), (dAtO 4 (d1 negM (dC (.int 1)))), (dVar 6), (d2 subM (dVar 5) (dC (.int 1)))])) (dVar 6) [6])) (dC (.int 0)))))
 (sFrz 4 (sRet (dVar 4)))))))
def F_first_of : List D → M D := runB 7 b_first_of
def b_walks : Sx :=
 (sSeq (sIf (tOrX (tNotX (tVal (d1 (isiD "list") (dVar 2)))) (tVal (d2 neM (dCall (F1 lenM) [(dVar 2)]) (d2 addM (d2 ixM (dVar 0) (dC (.int 2))) (dC (.int 1))))))
 (sRet (dC (.bl false)))
 sNil)
 (sSeq (sIf (tNotX (tVal (dCall (F1 allM) [(dOwn (oLc (iSeq (dVar 2)) (bName 4) tAll (dCall WP.F_is_stand [(dVar 0), (dVar 1), (dVar 4)]) [4]))])))
 (sRet (dC (.bl false)))
 sNil)
 (sRet (dCall (F1 allM) [(dOwn (oLc (iCall rng1M [(d2 subM (dCall (F1 lenM) [(dVar 2)]) (dC (.int 1)))]) (bName 3) tAll (dCall WP.F_is_step [(dVar 0), (d2 ixM (dVar 2) (dVar 3)), (d2 ixM (dVar 2) (d2 addM (dVar 3) (dC (.int 1)))), (dVar 3)]) [3]))]))))
def F_walks : List D → M D := runB 5 b_walks
def b__law_refusal : Sx :=
 (sSeq (sSet 1 (dOwn (oLst [(d1 (isxM 1) (dVar 0)), (d1 (isxM 2) (dVar 0)), (d1 (isxM 3) (dVar 0))])))
 (sSeq (sSet 1 (d2 addM (dVar 1) (dOwn (oLst [(d1 (isxM 4) (dVar 0)), (d1 (isxM 5) (dVar 0)), (d1 (isxM 6) (dVar 0))]))))
 (sSeq (sSet 1 (d2 addM (dVar 1) (dOwn (oLst [(d1 (isxM 7) (dVar 0)), (d1 (isxM 8) (dVar 0))]))))
 (sSeq (sIf (tOrX (tVal (d2 neM (dMt1 cntM (dVar 1) (dC (.bl true))) (dC (.int 1)))) (tOrX (tNotX (tVal (d1 (isxM 0) (dVar 0)))) (tNotX (tVal (d1 (isxM 9) (dVar 0))))))
 (sRet (dC (.str "odd")))
 sNil)
 (sRet (d2 ixM (dOwn (oLst [(dC (.str "house")), (dC (.str "folk")), (dC (.str "beat")), (dC (.str "room")), (dC (.str "book")), (dC (.str "paper")), (dC (.str "text")), (dC (.str "none"))])) (dMt1 idxM (dVar 1) (dC (.bl true)))))))))
def F__law_refusal : List D → M D := runB 2 b__law_refusal
def b_broken_by : Sx :=
 (sRet (dOwn (oLc (iCall rng1M [(dCall (F1 lenM) [(dVar 2)])]) (bName 3) (tNotX (tVal (dCall WP.F_holds [(dVar 0), (d2 ixM (dVar 1) (d2 ixM (d2 ixM (d2 ixM (dVar 2) (dVar 3)) (dC (.int 1))) (dC (.int 2)))), (d2 ixM (d2 ixM (dVar 2) (dVar 3)) (dC (.int 1)))]))) (dVar 3) [3])))
def F_broken_by : List D → M D := runB 4 b_broken_by
def b_look_wish : Sx :=
 (sSeq (sExpr (dCall WP.F_look_case [(dVar 0), (dVar 1), (dVar 2), (dVar 4)]))
 (sIf (tOrX (tVal (d2 gtM (dCall (F1 lenM) [(dVar 2)]) (dC (.int 12)))) (tNotX (tVal (dCall WP.F_is_claim [(dVar 0), (dVar 1), (dVar 3)]))))
 (sRaise 5)
 sNil))
def F_look_wish : List D → M D := runB 5 b_look_wish
def b_lots_of : Sx :=
 (sSeq (sSet 2 (dOwn (oLst [(dTup [])])))
 (sSeq (sFor (iSeq (dVar 0)) (bName 3)
 (sSet 2 (d2 addM (dVar 2) (dOwn (oLc (iSeq (dVar 2)) (bName 4) (tVal (d2 ltM (dCall (F1 lenM) [(dVar 4)]) (dVar 1))) (d2 addM (dVar 4) (dTup [(dVar 3)])) [4])))))
 (sRet (dOwn (oCall (F1 sortA) [(dOwn (oLc (iSeq (dVar 2)) (bName 4) (tVal (d2 eqM (dCall (F1 lenM) [(dVar 4)]) (dVar 1))) (dVar 4) [4]))])))))
def F_lots_of : List D → M D := runB 5 b_lots_of
def b_bars : Sx :=
 (sRet (d2 eqM (d2 ixM (dCall WP.F_met_lots [(dVar 0), (dVar 1), (d2 addM (dOwn (oLc (iSeq (dVar 3)) (bName 5) tAll (d2 ixM (d2 ixM (dVar 2) (dVar 5)) (dC (.int 1))) [5])) (dOwn (oLst [(dVar 4)])))]) (dC (.int 0))) (dOwn (oLst []))))
def F_bars : List D → M D := runB 6 b_bars
def b_core_of : Sx :=
 (sSeq (sSetO 5 (oLc (iCall rng1M [(dCall (F1 lenM) [(dVar 2)])]) (bName 8) (tVal (d2 (inM true) (d2 ixM (d2 ixM (dVar 2) (dVar 8)) (dC (.int 0))) (dVar 4))) (dVar 8) [8]))
 (sSeq (sFrz 5 (sIf (tNotX (tVal (dCall WP.F_bars [(dVar 0), (dVar 1), (dVar 2), (dVar 5), (dVar 3)])))
 (sRet (dC .non))
 sNil))
 (sSeq (sFor (iCall rng1M [(dCall (F1 lenM) [(dVar 5)])]) (bName 6)
 (sFor (iSeq (dCall WP.F_lots_of [(dVar 5), (dVar 6)])) (bName 7)
 (sIf (tVal (dCall WP.F_bars [(dVar 0), (dVar 1), (dVar 2), (dVar 7), (dVar 3)]))
 (sRet (dVar 7))
 sNil)))
 (sRet (dCall (F1 tupleM) [(dVar 5)])))))
def F_core_of : List D → M D := runB 9 b_core_of
def b_core : Sx :=
 (sSeq (sExpr (dCall WP.F_look_wish [(dVar 0), (dVar 1), (dVar 2), (dVar 3), (dVar 4)]))
 (sSeq (sSet 5 (dCall WP.F_core_of [(dVar 0), (dVar 1), (dVar 2), (dVar 3), (dVar 4)]))
 (sSeq (sIf (tVal (d2 (isM false) (dVar 5) (dC .non)))
 (sRaise 8)
 sNil)
 (sRet (dVar 5)))))
def F_core : List D → M D := runB 6 b_core
def b_needed : Sx :=
 (sSeq (sExpr (dCall WP.F_look_wish [(dVar 0), (dVar 1), (dVar 2), (dVar 3), (dVar 4)]))
 (sSeq (sSet 5 (dOwn (oLc (iCall rng1M [(dCall (F1 lenM) [(dVar 2)])]) (bName 6) (tVal (d2 (inM true) (d2 ixM (d2 ixM (dVar 2) (dVar 6)) (dC (.int 0))) (dVar 4))) (dVar 6) [6])))
 (sSeq (sIf (tNotX (tVal (dCall WP.F_bars [(dVar 0), (dVar 1), (dVar 2), (dVar 5), (dVar 3)])))
 (sRaise 8)
 sNil)
 (sRet (dOwn (oLc (iSeq (dVar 5)) (bName 6) (tNotX (tVal (dCall WP.F_bars [(dVar 0), (dVar 1), (dVar 2), (dOwn (oLc (iSeq (dVar 5)) (bName 7) (tVal (d2 neM (dVar 7) (dVar 6))) (dVar 7) [7])), (dVar 3)]))) (dVar 6) [6]))))))
def F_needed : List D → M D := runB 8 b_needed
def b_meets : Sx :=
 (sRet (dCall (F1 allM) [(dOwn (oLc (iSeq (dVar 1)) (bName 2) tAll (dCall (F1 anyM) [(dOwn (oLc (iSeq (dVar 0)) (bName 3) tAll (d2 (inM false) (dVar 3) (dVar 2)) [3]))]) [2]))]))
def F_meets : List D → M D := runB 4 b_meets
def b_least_paper : Sx :=
 (sSeq (sExpr (dCall WP.F_look_wish [(dVar 0), (dVar 1), (dVar 2), (dVar 3), (dVar 4)]))
 (sSeq (sSet 5 (dCall WP.F_core_of [(dVar 0), (dVar 1), (dVar 2), (dVar 3), (dVar 4)]))
 (sSeq (sIf (tVal (d2 (isM false) (dVar 5) (dC .non)))
 (sRaise 8)
 sNil)
 (sSeq (sSet 6 (dOwn (oLc (iCall rng1M [(dCall (F1 lenM) [(dVar 2)])]) (bName 10) (tVal (d2 (inM true) (d2 ixM (d2 ixM (dVar 2) (dVar 10)) (dC (.int 0))) (dVar 4))) (dVar 10) [10])))
 (sSeq (sSetO 7 (oLst []))
 (sSeq (sSetO 8 (oLst []))
 (sSeq (sFor (iSeq (dIf (tVal (d2 gtM (dCall (F1 lenM) [(dVar 5)]) (dC (.int 0)))) (dCall WP.F_lots_of [(dVar 6), (d2 subM (dCall (F1 lenM) [(dVar 5)]) (dC (.int 1)))]) (dOwn (oLst [])))) (bName 9)
 (sIf (tPeek 8 (tVal (dCall WP.F_meets [(dVar 9), (dVar 8)])))
 (sSeq (sSet 11 (dCall WP.F_first_of [(dVar 0), (dVar 1), (d2 addM (dOwn (oLc (iSeq (dVar 9)) (bName 10) tAll (d2 ixM (d2 ixM (dVar 2) (dVar 10)) (dC (.int 1))) [10])) (dOwn (oLst [(dVar 3)])))]))
 (sSeq (sApp 7 (dVar 11))
 (sApp 8 (dOwn (oLc (iSeq (dCall WP.F_broken_by [(dVar 0), (dVar 11), (dVar 2)])) (bName 10) (tVal (d2 (inM false) (dVar 10) (dVar 6))) (dVar 10) [10])))))
 sNil))
 (sFrz 7 (sRet (dVar 7))))))))))
def F_least_paper : List D → M D := runB 12 b_least_paper
def b_shows_least : Sx :=
 (sSeq (sExpr (dCall WP.F_look_wish [(dVar 0), (dVar 1), (dVar 2), (dVar 3), (dVar 6)]))
 (sSeq (sIf (tOrX (tNotX (tVal (dCall WP.F_is_whole [(dVar 4), (dC (.int 0)), (dC (.int 12))]))) (tNotX (tVal (d1 (isiD "list") (dVar 5)))))
 (sRaise 6)
 sNil)
 (sSeq (sIf (tNotX (tVal (dCall (F1 allM) [(dOwn (oLc (iSeq (dVar 5)) (bName 11) tAll (dCall WP.F_walks [(dVar 0), (dVar 1), (dVar 11)]) [11]))])))
 (sRaise 6)
 sNil)
 (sSeq (sIf (tNotX (tVal (dCall (F1 allM) [(dOwn (oLc (iSeq (dVar 5)) (bName 11) tAll (dCall WP.F_holds [(dVar 0), (d2 ixM (dVar 11) (d2 ixM (dVar 3) (dC (.int 2)))), (dVar 3)]) [11]))])))
 (sRet (dC (.bl false)))
 sNil)
 (sSeq (sSet 7 (dOwn (oLc (iCall rng1M [(dCall (F1 lenM) [(dVar 2)])]) (bName 10) (tVal (d2 (inM true) (d2 ixM (d2 ixM (dVar 2) (dVar 10)) (dC (.int 0))) (dVar 6))) (dVar 10) [10])))
 (sSeq (sSet 8 (dOwn (oLc (iSeq (dVar 5)) (bName 11) tAll (dOwn (oLc (iSeq (dCall WP.F_broken_by [(dVar 0), (dVar 11), (dVar 2)])) (bName 10) (tVal (d2 (inM false) (dVar 10) (dVar 7))) (dVar 10) [10])) [11])))
 (sSeq (sIf (tVal (d2 eqM (dVar 4) (dC (.int 0))))
 (sRet (dC (.bl true)))
 sNil)
 (sSeq (sSet 9 (dCall WP.F_lots_of [(dVar 7), (dCall (F2 min2M) [(d2 subM (dVar 4) (dC (.int 1))), (dCall (F1 lenM) [(dVar 7)])])]))
 (sRet (dNot (dCall (F1 anyM) [(dOwn (oLc (iSeq (dVar 9)) (bName 12) tAll (dCall WP.F_meets [(dVar 12), (dVar 8)]) [12]))])))))))))))
def F_shows_least : List D → M D := runB 13 b_shows_least
def b_is_question : Sx :=
 (sSeq (sIf (tOrX (tNotX (tVal (d1 (isiD "tuple") (dVar 2)))) (tOrX (tNotX (tVal (dChain leM leM (dC (.int 3)) (dCall (F1 lenM) [(dVar 2)]) (dC (.int 4))))) (tNotX (tVal (dCall WP.F_is_whole [(d2 ixM (dVar 2) (d1 negM (dC (.int 1)))), (dC (.int 0)), (d2 ixM (dVar 0) (dC (.int 2)))])))))
 (sRet (dC (.bl false)))
 sNil)
 (sSeq (sIf (tNotX (tVal (dCall WP.F_is_whole [(d2 ixM (dVar 2) (dC (.int 1))), (dC (.int 0)), (d2 subM (dVar 1) (dC (.int 1)))])))
 (sRet (dC (.bl false)))
 sNil)
 (sSeq (sIf (tVal (d2 eqM (d2 ixM (dVar 2) (dC (.int 0))) (dC (.str "where"))))
 (sRet (d2 eqM (dCall (F1 lenM) [(dVar 2)]) (dC (.int 3))))
 sNil)
 (sRet (dAnd (d2 eqM (d2 ixM (dVar 2) (dC (.int 0))) (dC (.str "together"))) (dAnd (d2 eqM (dCall (F1 lenM) [(dVar 2)]) (dC (.int 4))) (dCall WP.F_is_whole [(d2 ixM (dVar 2) (dC (.int 2))), (d2 addM (d2 ixM (dVar 2) (dC (.int 1))) (dC (.int 1))), (d2 subM (dVar 1) (dC (.int 1)))])))))))
def F_is_question : List D → M D := runB 3 b_is_question
def b_look_question : Sx :=
 (sIf (tNotX (tVal (dCall WP.F_is_question [(dVar 0), (dVar 1), (dVar 2)])))
 (sRaise 5)
 sNil)
def F_look_question : List D → M D := runB 3 b_look_question
def b_answer_in : Sx :=
 (sSeq (sIf (tVal (d2 eqM (d2 ixM (dVar 1) (dC (.int 0))) (dC (.str "where"))))
 (sRet (d2 ixM (dVar 0) (d2 ixM (dVar 1) (dC (.int 1)))))
 sNil)
 (sRet (d2 eqM (d2 ixM (dVar 0) (d2 ixM (dVar 1) (dC (.int 1)))) (d2 ixM (dVar 0) (d2 ixM (dVar 1) (dC (.int 2)))))))
def F_answer_in : List D → M D := runB 2 b_answer_in
def b_answers : Sx :=
 (sSeq (sExpr (dCall WP.F_look_case [(dVar 0), (dVar 1), (dVar 2), (dVar 4)]))
 (sSeq (sExpr (dCall WP.F_look_question [(dVar 0), (dVar 1), (dVar 3)]))
 (sSeq (sSet 5 (d2 ixM (dCall WP.F_met_lots [(dVar 0), (dVar 1), (dCall WP.F_claims_of [(dVar 2), (dVar 4)])]) (d2 ixM (dVar 3) (d1 negM (dC (.int 1))))))
 (sRet (dOwn (oSortDC (iSeq (dVar 5)) (bName 6) tAll (dCall WP.F_answer_in [(dVar 6), (dVar 3)]) (dC (.bl true)) [6]))))))
def F_answers : List D → M D := runB 7 b_answers
def b_stands_with : Sx :=
 (sSeq (sIf (tVal (d2 eqM (d2 ixM (dVar 3) (dC (.int 0))) (dC (.str "where"))))
 (sRet (dOwn (oLst [(dCall WP.F_met_lots [(dVar 0), (dVar 1), (d2 addM (dVar 2) (dOwn (oLst [(dTup [(dC (.str "at")), (d2 ixM (dVar 3) (dC (.int 1))), (d2 ixM (dVar 3) (dC (.int 2))), (dVar 4)])])))])])))
 sNil)
 (sSeq (sIf (tNotX (tTru (dVar 4)))
 (sRet (dOwn (oLst [(dCall WP.F_met_lots [(dVar 0), (dVar 1), (d2 addM (dVar 2) (dOwn (oLst [(dTup [(dC (.str "missed")), (d2 ixM (dVar 3) (dC (.int 1))), (d2 ixM (dVar 3) (dC (.int 3))), (d2 ixM (dVar 3) (dC (.int 2)))])])))])])))
 sNil)
 (sSeq (sSetO 5 (oLst []))
 (sSeq (sFor (iCall rng1M [(d2 ixM (dVar 0) (dC (.int 0)))]) (bName 6)
 (sApp 5 (dOwn (oLst [(dTup [(dC (.str "at")), (d2 ixM (dVar 3) (dC (.int 1))), (d2 ixM (dVar 3) (dC (.int 3))), (dVar 6)]), (dTup [(dC (.str "at")), (d2 ixM (dVar 3) (dC (.int 2))), (d2 ixM (dVar 3) (dC (.int 3))), (dVar 6)])]))))
 (sFrz 5 (sRet (dOwn (oLc (iSeq (dVar 5)) (bName 7) tAll (dCall WP.F_met_lots [(dVar 0), (dVar 1), (d2 addM (dVar 2) (dVar 7))]) [7]))))))))
def F_stands_with : List D → M D := runB 8 b_stands_with
def b_settled : Sx :=
 (sSeq (sSetO 3 (oLc2 (iSeq (dVar 1)) (bName 4) tAll (iSeq (d2 ixM (dVar 4) (d2 ixM (dVar 2) (dC (.int 2))))) (bName 5) tAll (dCall WP.F_holds [(dVar 0), (dVar 5), (dVar 2)]) [4, 5] [5]))
 (sFrz 3 (sRet (dOr (dCall (F1 allM) [(dVar 3)]) (dNot (dCall (F1 anyM) [(dVar 3)]))))))
def F_settled : List D → M D := runB 6 b_settled
def b_settles : Sx :=
 (sSeq (sExpr (dCall WP.F_look_case [(dVar 0), (dVar 1), (dVar 2), (dVar 5)]))
 (sSeq (sExpr (dCall WP.F_look_question [(dVar 0), (dVar 1), (dVar 3)]))
 (sSeq (sIf (tNotX (tVal (dCall WP.F_is_claim [(dVar 0), (dVar 1), (dVar 4)])))
 (sRaise 5)
 sNil)
 (sSeq (sSet 6 (dCall WP.F_claims_of [(dVar 2), (dVar 5)]))
 (sSeq (sSet 7 (dCallK WP.F_answers [(dVar 0), (dVar 1), (dVar 2), (dVar 3)] (dVar 5)))
 (sSeq (sIf (tVal (d2 eqM (dVar 7) (dOwn (oLst []))))
 (sRaise 8)
 sNil)
 (sRet (dCall (F1 allM) [(dOwn (oLc (iSeq (dVar 7)) (bName 8) tAll (dCall WP.F_settled [(dVar 0), (dCall WP.F_stands_with [(dVar 0), (dVar 1), (dVar 6), (dVar 3), (dVar 8)]), (dVar 4)]) [8]))]))))))))
def F_settles : List D → M D := runB 9 b_settles
def b_open_still : Sx :=
 (sSeq (sExpr (dCall WP.F_look_case [(dVar 0), (dVar 1), (dVar 2), (dVar 4)]))
 (sSeq (sIf (tNotX (tVal (dCall WP.F_is_claim [(dVar 0), (dVar 1), (dVar 3)])))
 (sRaise 5)
 sNil)
 (sSeq (sSet 5 (d2 ixM (dCall WP.F_met_lots [(dVar 0), (dVar 1), (dCall WP.F_claims_of [(dVar 2), (dVar 4)])]) (d2 ixM (dVar 3) (dC (.int 2)))))
 (sSeq (sSetO 6 (oLc (iSeq (dVar 5)) (bName 7) tAll (dCall WP.F_holds [(dVar 0), (dVar 7), (dVar 3)]) [7]))
 (sFrz 6 (sRet (dAnd (dCall (F1 anyM) [(dVar 6)]) (dNot (dCall (F1 allM) [(dVar 6)])))))))))
def F_open_still : List D → M D := runB 8 b_open_still
def b_fits_at : Sx :=
 (sRet (dCall (F1 allM) [(dOwn (oLc (iSeq (dVar 2)) (bName 4) (tVal (d2 eqM (d2 ixM (dVar 4) (dC (.int 2))) (dVar 3))) (dCall WP.F_holds [(dVar 0), (dVar 1), (dVar 4)]) [4]))]))
def F_fits_at : List D → M D := runB 5 b_fits_at
def b_questions : Sx :=
 (sSeq (sSetO 2 (oLc2 (iCall rng1M [(dVar 1)]) (bName 5) tAll (iCall rng1M [(d2 addM (d2 ixM (dVar 0) (dC (.int 2))) (dC (.int 1)))]) (bName 6) tAll (dTup [(dC (.str "where")), (dVar 5), (dVar 6)]) [5, 6] [6]))
 (sSeq (sFor (iCall rng1M [(dVar 1)]) (bName 3)
 (sFor (iCall rng2M [(d2 addM (dVar 3) (dC (.int 1))), (dVar 1)]) (bName 4)
 sFail))
 (sFrz 2 (sRet (dVar 2)))))
def F_questions : List D → M D := runB 7 b_questions
def b_settling : Sx :=
 (sSeq (sExpr (dCall WP.F_look_case [(dVar 0), (dVar 1), (dVar 2), (dVar 4)]))
 (sSeq (sIf (tNotX (tVal (dCall WP.F_is_claim [(dVar 0), (dVar 1), (dVar 3)])))
 (sRaise 5)
 sNil)
 (sSeq (sIf (tVal (d2 eqM (d2 ixM (dCall WP.F_met_lots [(dVar 0), (dVar 1), (dCall WP.F_claims_of [(dVar 2), (dVar 4)])]) (dC (.int 0))) (dOwn (oLst []))))
 (sRaise 8)
 sNil)
 (sRet (dOwn (oLc (iSeq (dCall WP.F_questions [(dVar 0), (dVar 1)])) (bName 5) (tVal (dCallK WP.F_settles [(dVar 0), (dVar 1), (dVar 2), (dVar 5), (dVar 3)] (dVar 4))) (dVar 5) [5]))))))
def F_settling : List D → M D := runB 6 b_settling
def b_story_outside_v2 : Sx :=
 (sSeq (sSetO 3 (oLc (iSeq (d2 ixM (dVar 2) (dC (.int 0)))) (bName 9) tAll (dTup [(dVar 9), (dCall WP.F_fits_at [(dVar 0), (dVar 9), (dVar 1), (dC (.int 0))])]) [9]))
 (sSeq sFail
 (sSeq (sFor (iCall rng2M [(dC (.int 1)), (d2 addM (d2 ixM (dVar 0) (dC (.int 2))) (dC (.int 1)))]) (bName 5)
 (sSeq (sSetD 7 yNew)
 (sSeq (sFor (iSeq (dVar 4)) (bName 8)
 (sFor (iSeq (d2 ixM (dVar 2) (dVar 5))) (bName 10)
 (sIf (tVal (dCall WP.F_is_step [(dVar 0), (d2 ixM (dVar 8) (dC (.int 0))), (dVar 10), (d2 subM (dVar 5) (dC (.int 1)))]))
 (sSeq (sSet 11 (dTup [(dVar 10), (dAnd (d2 ixM (dVar 8) (dC (.int 1))) (dCall WP.F_fits_at [(dVar 0), (dVar 10), (dVar 1), (dVar 5)]))]))
 (sSeq (sSet 12 (d2 addM (d2 ixM (dVar 4) (dVar 8)) (dOwn (oLst [(dVar 10)]))))
 (sIf (tOrX (tVal (dInO true 7 (dVar 11))) (tVal (d2 ltM (dVar 12) (dIxD 7 (dVar 11)))))
 (sIx 7 (dVar 11) (dVar 12))
 sNil)))
 sNil)))
 (sFrz 7 (sSet 4 (dVar 7))))))
 (sSeq (sSetO 6 (oLc (iSeq (dVar 4)) (bName 8) (tNotX (tTru (d2 ixM (dVar 8) (dC (.int 1))))) (d2 ixM (dVar 4) (dVar 8)) [8]))
 (sFrz 6 (sRet (dIf (tVal (d2 neM (dVar 6) (dOwn (oLst [])))) (dCall (F1 minA) [(dVar 6)]) (dC .non))))))))
def F_story_outside_v2 : List D → M D := runB 13 b_story_outside_v2
def b_parting_v2 : Sx :=
 (sSeq (sExpr (dCall WP.F_look_case [(dVar 0), (dVar 1), (dVar 2), (dVar 4)]))
 (sSeq (sExpr (dCall WP.F_look_book [(dVar 0), (dVar 1), (dVar 3)]))
 (sSeq (sPar [6, 7] [(dCall WP.F_claims_of [(dVar 2), (dVar 4)]), (dCall WP.F_claims_of [(dVar 3), (dVar 4)])])
 (sSeq (sSet 5 (dCall WP.F_story_outside_v2 [(dVar 0), (dVar 7), (dCall WP.F_met_lots [(dVar 0), (dVar 1), (dVar 6)])]))
 (sSeq (sIf (tVal (d2 (isM true) (dVar 5) (dC .non)))
 (sRet (dTup [(dC (.int 0)), (dVar 5)]))
 sNil)
 (sSeq (sSet 5 (dCall WP.F_story_outside_v2 [(dVar 0), (dVar 6), (dCall WP.F_met_lots [(dVar 0), (dVar 1), (dVar 7)])]))
 (sRet (dIf (tVal (d2 (isM false) (dVar 5) (dC .non))) (dC .non) (dTup [(dC (.int 1)), (dVar 5)])))))))))
def F_parting_v2 : List D → M D := runB 8 b_parting_v2
def b_alike_v2 : Sx :=
 (sRet (d2 (isM false) (dCallK WP.F_parting_v2 [(dVar 0), (dVar 1), (dVar 2), (dVar 3)] (dVar 4)) (dC .non)))
def F_alike_v2 : List D → M D := runB 5 b_alike_v2
def b__law_does_v2 : Sx :=
 (sSeq (sIf (tVal (d2 eqM (dVar 0) (dC (.int 0))))
 (sRet (dCallK WP.F_core [(dVar 1), (dC (.int 2)), (dVar 2), (dVar 3)] (dVar 5)))
 sNil)
 (sSeq (sIf (tVal (d2 eqM (dVar 0) (dC (.int 1))))
 (sRet (dCallK WP.F_least_paper [(dVar 1), (dC (.int 2)), (dVar 2), (dVar 3)] (dVar 5)))
 sNil)
 (sSeq (sIf (tVal (d2 eqM (dVar 0) (dC (.int 2))))
 (sRet (dCallK WP.F_needed [(dVar 1), (dC (.int 2)), (dVar 2), (dVar 3)] (dVar 5)))
 sNil)
 (sSeq (sIf (tVal (d2 eqM (dVar 0) (dC (.int 3))))
 (sRet (dCallK WP.F_shows_least [(dVar 1), (dC (.int 2)), (dVar 2), (dVar 3), (dVar 4), (dOwn (oLst []))] (dVar 5)))
 sNil)
 (sSeq (sIf (tVal (d2 eqM (dVar 0) (dC (.int 4))))
 (sRet (dCallK WP.F_answers [(dVar 1), (dC (.int 2)), (dVar 2), (dVar 4)] (dVar 5)))
 sNil)
 (sSeq (sIf (tVal (d2 eqM (dVar 0) (dC (.int 5))))
 (sRet (dCallK WP.F_settles [(dVar 1), (dC (.int 2)), (dVar 2), (dVar 4), (dVar 3)] (dVar 5)))
 sNil)
 (sSeq (sIf (tVal (d2 eqM (dVar 0) (dC (.int 6))))
 (sRet (dCallK WP.F_settling [(dVar 1), (dC (.int 2)), (dVar 2), (dVar 3)] (dVar 5)))
 sNil)
 (sSeq (sIf (tVal (d2 eqM (dVar 0) (dC (.int 7))))
 (sRet (dCallK WP.F_open_still [(dVar 1), (dC (.int 2)), (dVar 2), (dVar 3)] (dVar 5)))
 sNil)
 (sRet (dIf (tVal (d2 eqM (dVar 0) (dC (.int 8)))) (dCallK WP.F_parting_v2 [(dVar 1), (dC (.int 2)), (dVar 2), (dVar 3)] (dVar 5)) (dCallK WP.F_alike_v2 [(dVar 1), (dC (.int 2)), (dVar 2), (dVar 3)] (dVar 5))))))))))))
def F__law_does_v2 : List D → M D := runB 6 b__law_does_v2
def b__law_asked_v3 : Sx :=
 (sSeq (sSet 6 (dC .non))
 (sSeq (sTry 8 6
 (sExpr (dCall WP.F__law_does_v2 [(dVar 0), (dVar 1), (dVar 2), (dVar 3), (dVar 4), (dVar 5)])))
 (sRet (dIf (tVal (d2 (isM false) (dVar 6) (dC .non))) (dC (.str "told")) (dCall WP.F__law_refusal [(dVar 6)])))))
def F__law_asked_v3 : List D → M D := runB 8 b__law_asked_v3
def b__law_paper : Sx :=
 (sSeq (sSet 4 (dC .non))
 (sSeq (sSet 5 (dC .non))
 (sSeq (sTry 7 5
 (sSet 4 (dCallD WP.F_shows_least [(dVar 0), (dC (.int 2)), (dOwn (oLst [(dTup [(dC .non), (dTup [(dC (.str "not")), (dC (.int 0)), (dC (.int 0)), (dC (.int 1))])])])), (dVar 1), (dVar 2), (dVar 3)])))
 (sRet (dIf (tVal (d2 (isM false) (dVar 5) (dC .non))) (dVar 4) (dCall WP.F__law_refusal [(dVar 5)]))))))
def F__law_paper : List D → M D := runB 7 b__law_paper
def b__law_papers : Sx :=
 (sSeq (sIf (tVal (d2 neM (dOwn (oLc (iSeq (dOwn (oLst [(dC .non), (d2 subM (dC (.int 0)) (dC (.int 1))), (dC (.int 13)), (dC (.bl true)), (dC (.str "1"))]))) (bName 5) tAll (dCall WP.F__law_paper [(dVar 0), (dVar 1), (dVar 5), (dOwn (oLst []))]) [5])) (d2 mulM (dOwn (oLst [(dC (.str "paper"))])) (dC (.int 5)))))
 (sRet (dC (.bl false)))
 sNil)
 (sSeq (sSet 2 (dOwn (oLst [(dTup [(dC (.int 1)), (dC (.int 0))]), (dTup [(dC (.int 1)), (dC (.int 0))]), (dTup [(dC (.int 1)), (dC (.int 0))])])))
 (sSeq (sIf (tVal (d2 neM (dOwn (oLc (iSeq (dOwn (oLst [(dC .non), (dC (.int 5)), (dTup []), (dOwn (oLst [(dC .non)])), (dOwn (oLst [(dOwn (oLst []))])), (dOwn (oLst [(dSl (dVar 2) pNo (pIn (dC (.int 2))))])), (dOwn (oLst [(d2 mulM (dOwn (oLst [(dTup [(dC (.int 2)), (dC (.int 0))])])) (dC (.int 3)))]))]))) (bName 5) tAll (dCall WP.F__law_paper [(dVar 0), (dVar 1), (dC (.int 1)), (dVar 5)]) [5])) (d2 mulM (dOwn (oLst [(dC (.str "paper"))])) (dC (.int 7)))))
 (sRet (dC (.bl false)))
 sNil)
 (sSeq (sSetO 3 (oLc (iSeq (dOwn (oLst [(dC (.int 0)), (dC (.int 1)), (dC (.int 2)), (dC (.int 12))]))) (bName 4) tAll (dCall WP.F__law_paper [(dVar 0), (dVar 1), (dVar 4), (dOwn (oLst [(dVar 2)]))]) [4]))
 (sFrz 3 (sRet (dAnd (d2 eqM (dVar 3) (dOwn (oLst [(dC (.bl true)), (dC (.bl true)), (dC (.bl false)), (dC (.bl false))]))) (dAnd (d2 (isM false) (dCall WP.F__law_paper [(dVar 0), (dVar 1), (dC (.int 0)), (dOwn (oLst []))]) (dC (.bl true))) (d2 (isM false) (dCall WP.F__law_paper [(dVar 0), (dVar 1), (dC (.int 1)), (dOwn (oLst []))]) (dC (.bl false)))))))))))
def F__law_papers : List D → M D := runB 6 b__law_papers
end WP
set_option maxHeartbeats 4000000
namespace Wk19
open PySem PySem.Spec L2 WW
def b_law : Sx :=
 (sSeq (sSet 2 (dTup [(dC (.int 2)), (dTup [(dTup [(dC (.int 0)), (dC (.int 1))])]), (dC (.int 2)), (dTup []), (dTup [])]))
 (sSeq (sSet 3 (dTup [(dC (.str "at")), (dC (.int 0)), (dC (.int 0)), (dC (.int 1))]))
 (sSeq (sFor (iSeq (dOwn (oLst [(dC .non), (dC (.int 5)), (dOwn (oLst [(dC .non)])), (dTup [])]))) (bName 4)
 (sIf (tVal (d2 neM (dOwn (oLc (iCall rng1M [(dC (.int 10))]) (bName 7) tAll (dCall WP.F__law_asked_v3 [(dVar 7), (dVar 2), (dVar 4), (dC .non), (dC .non), (dC .non)]) [7])) (d2 mulM (dOwn (oLst [(dC (.str "book"))])) (dC (.int 10)))))
 (sRet (dC (.bl false)))
 sNil))
 (sSeq (sFor (iSeq (dOwn (oLst [(dC .non), (dC (.int 0)), (dOwn (oLst [(dC (.int 0))])), (dTup [(dC (.int 2))]), (dTup [(dC (.int 1)), (dC (.int 0))])]))) (bName 4)
 (sIf (tVal (d2 neM (dOwn (oLc (iCall rng1M [(dC (.int 10))]) (bName 7) tAll (dCall WP.F__law_asked_v3 [(dVar 7), (dVar 2), (dOwn (oLst [])), (dC .non), (dC .non), (dVar 4)]) [7])) (d2 mulM (dOwn (oLst [(dC (.str "folk"))])) (dC (.int 10)))))
 (sRet (dC (.bl false)))
 sNil))
 (sSeq (sFor (iSeq (dOwn (oLst [(dC .non), (dC (.int 5)), (dTup [(dC (.str "at")), (dC (.int 0)), (dC (.int 3)), (dC (.int 1))]), (dOwn (oLst [(dVar 3)])), (dTup [(dC (.str "saw")), (dC (.int 0)), (dC (.int 0)), (dC (.int 0))])]))) (bName 4)
 (sIf (tVal (d2 neM (dOwn (oLc (iSeq (dOwn (oLst [(dC (.int 0)), (dC (.int 1)), (dC (.int 2)), (dC (.int 3)), (dC (.int 5)), (dC (.int 6)), (dC (.int 7))]))) (bName 7) tAll (dCall WP.F__law_asked_v3 [(dVar 7), (dVar 2), (dOwn (oLst [])), (dVar 4), (dTup [(dC (.str "where")), (dC (.int 0)), (dC (.int 0))]), (dTup [])]) [7])) (d2 mulM (dOwn (oLst [(dC (.str "book"))])) (dC (.int 7)))))
 (sRet (dC (.bl false)))
 sNil))
 (sSeq (sFor (iSeq (dOwn (oLst [(dC .non), (dC (.int 5)), (dTup [(dC (.str "where"))]), (dTup [(dC (.str "where")), (dC (.int 0))]), (dTup [(dC (.str "where")), (dC (.int 2)), (dC (.int 0))]), (dTup [(dC (.str "where")), (dC (.int 0)), (dC (.int 3))]), (dTup [(dC (.str "who")), (dC (.int 0)), (dC (.int 0))]), (dTup [(dC (.str "together")), (dC (.int 0)), (dC (.int 0)), (dC (.int 0))]), (dTup [(dC (.str "together")), (dC (.int 1)), (dC (.int 0)), (dC (.int 0))]), (dTup [(dC (.str "where")), (dC (.int 0)), (dC (.int 0)), (dC (.int 0))]), (dTup [(dC (.str "together")), (dC (.int 0)), (dC (.int 1))]), (dTup [(dC (.str "who")), (dC (.int 0)), (dC (.int 1)), (dC (.int 0))]), (dTup [(dC (.str "together")), (dC (.int 0)), (dC (.int 2)), (dC (.int 0))])]))) (bName 4)
 (sIf (tVal (d2 neM (dOwn (oLc (iSeq (dOwn (oLst [(dC (.int 4)), (dC (.int 5))]))) (bName 7) tAll (dCall WP.F__law_asked_v3 [(dVar 7), (dVar 2), (dOwn (oLst [])), (dVar 3), (dVar 4), (dTup [])]) [7])) (d2 mulM (dOwn (oLst [(dC (.str "book"))])) (dC (.int 2)))))
 (sRet (dC (.bl false)))
 sNil))
 (sSeq (sFor (iSeq (dOwn (oLst [(dC .non), (dC (.int 5)), (dOwn (oLst [(dC .non)])), (dTup [])]))) (bName 4)
 (sIf (tVal (d2 neM (dOwn (oLc (iSeq (dOwn (oLst [(dC (.int 8)), (dC (.int 9))]))) (bName 7) tAll (dCall WP.F__law_asked_v3 [(dVar 7), (dVar 2), (dOwn (oLst [])), (dVar 4), (dC (.int 0)), (dTup [])]) [7])) (d2 mulM (dOwn (oLst [(dC (.str "book"))])) (dC (.int 2)))))
 (sRet (dC (.bl false)))
 sNil))
 (sSeq (sSet 5 (d2 mulM (dOwn (oLst [(dTup [(dC (.int 0)), (dTup [(dC (.str "alone")), (dC (.int 0)), (dC (.int 0)), (dC .non)])])])) (dC (.int 12))))
 (sSeq (sIf (tOrX (tVal (d2 neM (dOwn (oLc (iCall rng1M [(dC (.int 4))]) (bName 7) tAll (dCall WP.F__law_asked_v3 [(dVar 7), (dVar 2), (d2 addM (dVar 5) (dSl (dVar 5) pNo (pIn (dC (.int 1))))), (dVar 3), (dC (.int 0)), (dTup [])]) [7])) (d2 mulM (dOwn (oLst [(dC (.str "book"))])) (dC (.int 4))))) (tVal (d2 neM (dCall WP.F__law_asked_v3 [(dC (.int 3)), (dVar 2), (dVar 5), (dVar 3), (dC (.int 0)), (dTup [])]) (dC (.str "told")))))
 (sRet (dC (.bl false)))
 sNil)
 (sSeq (sIf (tVal (d2 neM (dOwn (oLc (iCall rng1M [(dC (.int 4))]) (bName 7) tAll (dCall WP.F__law_asked_v3 [(dVar 7), (dVar 2), (dOwn (oLst [])), (dVar 3), (dC (.int 0)), (dTup [])]) [7])) (dOwn (oLst [(dC (.str "none")), (dC (.str "none")), (dC (.str "none")), (dC (.str "told"))]))))
 (sRet (dC (.bl false)))
 sNil)
 (sSeq (sSet 6 (dOwn (oLst [(dTup [(dC .non), (dTup [(dC (.str "at")), (dC (.int 0)), (dC (.int 0)), (dC (.int 0))])]), (dTup [(dC .non), (dTup [(dC (.str "at")), (dC (.int 0)), (dC (.int 0)), (dC (.int 1))])])])))
 (sSeq (sIf (tVal (d2 neM (dOwn (oLc (iCall rng1M [(dC (.int 8))]) (bName 7) tAll (dCall WP.F__law_asked_v3 [(dVar 7), (dVar 2), (dVar 6), (dVar 3), (dTup [(dC (.str "where")), (dC (.int 0)), (dCall drawM [(dVar 1), (dC (.int 3))])]), (dTup [])]) [7])) (d2 addM (d2 mulM (dOwn (oLst [(dC (.str "told"))])) (dC (.int 3))) (dOwn (oLst [(dC (.str "paper")), (dC (.str "told")), (dC (.str "none")), (dC (.str "none")), (dC (.str "told"))])))))
 (sRet (dC (.bl false)))
 sNil)
 (sRet (dAnd (dCall WP.F__law_papers [(dVar 2), (dVar 3)]) (dAnd (d2 eqM (dCallD WP.F_core [(dVar 2), (dC (.int 2)), (dVar 6), (dVar 3)]) (dTup [(dC (.int 0))])) (d2 eqM (dCallD WP.F_answers [(dVar 2), (dC (.int 2)), (dOwn (oLst [])), (dTup [(dC (.str "together")), (dC (.int 0)), (dC (.int 1)), (dC (.int 2))])]) (dOwn (oLst [(dC (.bl false)), (dC (.bl true))]))))))))))))))))))
def nLaw : Nat := 8
end Wk19
set_option maxHeartbeats 4000000
namespace WW
open PySem PySem.Spec L2
@[simp] theorem isrt_nil {α : Type} (le : α → α → Bool) : isrt le [] = [] := (rfl)
@[simp] theorem isrt_one {α : Type} (le : α → α → Bool) (x : α) : isrt le [x] = [x] := (rfl)
section
variable {α β : Type} {ρ : En}
@[simp] theorem ap_dC (d : D) : dC d ρ = M.ret d := (rfl)
@[simp] theorem ap_d1 (f : D → M D) (a : Ex) : d1 f a ρ = (a ρ >>= f) := (rfl)
@[simp] theorem ap_d2 (f : D → D → M D) (a b : Ex) : d2 f a b ρ = (a ρ >>= fun x => b ρ >>= fun y => f x y) := (rfl)
@[simp] theorem ap_var (i : Nat) : dVar i ρ = match ρ[i]? with | some (some (.d x)) => M.ret x | _ => M.fail := (rfl)
@[simp] theorem ap_args0 : dArgs [] ρ = M.ret [] := (rfl)
@[simp] theorem ap_args (a : Ex) (as : List Ex) : dArgs (a :: as) ρ = (a ρ >>= fun x => dArgs as ρ >>= fun xs => M.ret (x :: xs)) := (rfl)
@[simp] theorem ap_call (F : List D → M D) (as : List Ex) : dCall F as ρ = (dArgs as ρ >>= F) := (rfl)
@[simp] theorem ap_ocall (F : List D → M (List D)) (as : List Ex) : oCall F as ρ = (dArgs as ρ >>= F) := (rfl)
@[simp] theorem ap_icall (F : List D → M (List D)) (as : List Ex) : iCall F as ρ = (dArgs as ρ >>= F) := (rfl)
@[simp] theorem ap_iseq (f : Ex) : iSeq f ρ = (f ρ >>= seqM) := (rfl)
@[simp] theorem ap_F1 (op : D → M α) (x : D) : F1 op [x] = op x := (rfl)
@[simp] theorem ap_val (f : Ex) : tVal f ρ = (f ρ >>= blM) := (rfl)
@[simp] theorem ap_tru (f : Ex) : tTru f ρ = (f ρ >>= truM) := (rfl)
@[simp] theorem ap_notX (f : Tx) : tNotX f ρ = (f ρ >>= fun b => M.ret (!b)) := (rfl)
@[simp] theorem ap_andX (f g : Tx) : tAndX f g ρ = (f ρ >>= fun b => if b = true then g ρ else M.ret false) := (rfl)
@[simp] theorem ap_orX (f g : Tx) : tOrX f g ρ = (f ρ >>= fun b => if b = true then M.ret true else g ρ) := (rfl)
@[simp] theorem ap_not (f : Ex) : dNot f ρ = (f ρ >>= blM >>= fun b => M.ret (.bl (!b))) := (rfl)
@[simp] theorem ap_and (f g : Ex) : dAnd f g ρ = (f ρ >>= blM >>= fun b => if b = true then g ρ else M.ret (.bl false)) := (rfl)
@[simp] theorem ap_or (f g : Ex) : dOr f g ρ = (f ρ >>= blM >>= fun b => if b = true then M.ret (.bl true) else g ρ) := (rfl)
@[simp] theorem ap_ife (t : Tx) (f g : Ex) : dIf t f g ρ = (t ρ >>= fun b => if b = true then f ρ else g ρ) := (rfl)
@[simp] theorem ap_chain (o o' : D → D → M D) (f g h : Ex) : dChain o o' f g h ρ = (f ρ >>= fun x => g ρ >>= fun y => o x y >>= blM >>= fun b => if b = true then h ρ >>= fun z => o' y z else M.ret (.bl false)) := (rfl)
@[simp] theorem ap_tup (as : List Ex) : dTup as ρ = (dArgs as ρ >>= fun xs => if xs.length ≤ sizeLine then M.ret (.tup xs) else M.fail) := (rfl)
@[simp] theorem ap_olst (as : List Ex) : oLst as ρ = (dArgs as ρ >>= fun xs => if xs.length ≤ sizeLine then M.ret xs else M.fail) := (rfl)
@[simp] theorem ap_own (f : Ox) : dOwn f ρ = (f ρ >>= fun xs => M.ret (.lst xs)) := (rfl)
@[simp] theorem ap_all : tAll ρ = M.ret true := (rfl)
@[simp] theorem bl_ret (b : Bool) : blM (.bl b) = M.ret b := (rfl)
@[simp] theorem seq_lst (xs : List D) : seqM (.lst xs) = M.ret xs := (rfl)
@[simp] theorem seq_tup (xs : List D) : seqM (.tup xs) = M.ret xs := (rfl)
@[simp] theorem sub_ii (i j : Int) : subM (.int i) (.int j) = M.ret (.int (i - j)) := (rfl)
@[simp] theorem add_ii (i j : Int) : addM (.int i) (.int j) = M.ret (.int (i + j)) := (rfl)
@[simp] theorem le_ii (i j : Int) : leM (.int i) (.int j) = M.ret (.bl (decide (i ≤ j))) := (rfl)
@[simp] theorem ge_ii (i j : Int) : geM (.int i) (.int j) = M.ret (.bl (decide (j ≤ i))) := (rfl)
@[simp] theorem gt_ii (i j : Int) : gtM (.int i) (.int j) = M.ret (.bl (decide (j < i))) := (rfl)
@[simp] theorem lt_ii (i j : Int) : ltM (.int i) (.int j) = M.ret (.bl (decide (i < j))) := (rfl)
@[simp] theorem len_lst (xs : List D) : lenM (.lst xs) = M.ret (.int xs.length) := (rfl)
@[simp] theorem len_tup (xs : List D) : lenM (.tup xs) = M.ret (.int xs.length) := (rfl)
@[simp] theorem tuple_lst (xs : List D) : tupleM (.lst xs) = M.ret (.tup xs) := (rfl)
@[simp] theorem tuple_tup (xs : List D) : tupleM (.tup xs) = M.ret (.tup xs) := (rfl)
@[simp] theorem noX_ret (a : α) : noX (M.ret a) = M.ret a := (rfl)
@[simp] theorem ap_sNil : sNil ρ = M.ret (.nx ρ) := (rfl)
@[simp] theorem ap_sSeq (s t : Sx) : sSeq s t ρ = (s ρ >>= onNx t) := (rfl)
@[simp] theorem onNx_nx (t : Sx) : onNx t (.nx ρ) = t ρ := (rfl)
@[simp] theorem onNx_rt (t : Sx) (d : D) : onNx t (.rt d) = M.ret (.rt d) := (rfl)
@[simp] theorem onNx_bk (t : Sx) : onNx t (.bk ρ) = M.ret (.bk ρ) := (rfl)
@[simp] theorem onNx_ct (t : Sx) : onNx t (.ct ρ) = M.ret (.ct ρ) := (rfl)
@[simp] theorem ap_sIf (c : Tx) (s t : Sx) : sIf c s t ρ = (c ρ >>= fun b => if b = true then s ρ else t ρ) := (rfl)
@[simp] theorem ap_sSet (i : Nat) (f : Ex) : sSet i f ρ = (f ρ >>= fun d => M.ret (.nx (ρ.set i (some (.d d))))) := (rfl)
@[simp] theorem ap_sSetO (i : Nat) (f : Ox) : sSetO i f ρ = (f ρ >>= fun ds => M.ret (.nx (ρ.set i (some (.ol ds))))) := (rfl)
@[simp] theorem ap_sExpr (f : Ex) : sExpr f ρ = (f ρ >>= fun _ => M.ret (.nx ρ)) := (rfl)
@[simp] theorem ap_sRet (f : Ex) : sRet f ρ = (f ρ >>= fun d => M.ret (.rt d)) := (rfl)
@[simp] theorem ap_sRetN : sRetN ρ = M.ret (.rt .non) := (rfl)
@[simp] theorem ap_sRaise (k : Nat) : sRaise k ρ = M.rais k := (rfl)
@[simp] theorem ap_sBrk : sBrk ρ = M.ret (.bk ρ) := (rfl)
@[simp] theorem ap_sCnt : sCnt ρ = M.ret (.ct ρ) := (rfl)
@[simp] theorem ap_sFrz (i : Nat) (s : Sx) : sFrz i s ρ = s (frzE i ρ) := (rfl)
@[simp] theorem ap_sPar (is : List Nat) (as : List Ex) : sPar is as ρ = (dArgs as ρ >>= fun ds => M.ret (.nx (setsE is ds ρ))) := (rfl)
@[simp] theorem ap_sUnp (is : List Nat) (f : Ex) : sUnp is f ρ = (f ρ >>= fun d => match d with | .tup ds => if ds.length = is.length then M.ret (.nx (setsE is ds ρ)) else M.fail | _ => M.fail) := (rfl)
@[simp] theorem ap_sFor (src : Sr) (b : Bd) (body : Sx) : sFor src b body ρ = (src ρ >>= fun xs => forM b body xs ρ) := (rfl)
@[simp] theorem setsE_cons (i : Nat) (is : List Nat) (d : D) (ds : List D) : setsE (i :: is) (d :: ds) ρ = setsE is ds (ρ.set i (some (.d d))) := (rfl)
@[simp] theorem setsE_nil (ds : List D) : setsE [] ds ρ = ρ := (rfl)
@[simp] theorem ap_oLc (src : Sr) (b : Bd) (t : Tx) (el : Ex) (vs : List Nat) : oLc src b t el vs ρ = if okW ρ vs = true then src ρ >>= fun xs => noX (lcM (wipeE ρ vs) b t el xs) else M.fail := (rfl)
@[simp] theorem runB_ap (n : Nat) (f : Sx) (ds : List D) : runB n f ds = (f (startE n ds) >>= endM) := (rfl)
@[simp] theorem end_rt (d : D) : endM (.rt d) = M.ret d := (rfl)
@[simp] theorem end_nx : endM (.nx ρ) = M.ret .non := (rfl)
@[simp] theorem ap_bind {γ : Type} (a : M α) (f : α → M β) (g : β → M γ) : ((a >>= f) >>= g) = (a >>= fun x => f x >>= g) := bind_assoc' a f g
end
@[simp] theorem okW_nil {ρ : En} : okW ρ [] = true := (rfl)
@[simp] theorem okW_cons {ρ : En} (v : Nat) (vs : List Nat) : okW ρ (v :: vs) = ((match ρ[v]? with | some (some (.ol _)) => false | some (some (.od _ _)) => false | _ => true) && okW ρ vs) := (rfl)
@[simp] theorem wipeE_nil {ρ : En} : wipeE ρ [] = ρ := (rfl)
@[simp] theorem wipeE_cons {ρ : En} (v : Nat) (vs : List Nat) : wipeE ρ (v :: vs) = (wipeE ρ vs).set v none := (rfl)
@[simp] theorem startE_ap (n : Nat) (ds : List D) : startE n ds = ds.map (fun d => some (.d d)) ++ List.replicate (n - ds.length) none := (rfl)
@[simp] theorem putE_ap (ρ : En) (i : Nat) (d : D) : putE ρ i d = ρ.set i (some (.d d)) := (rfl)
@[simp] theorem frzE_ap (ρ : En) (i : Nat) : frzE i ρ = (match ρ[i]? with | some (some (.ol ds)) => ρ.set i (some (.d (.lst ds))) | some (some (.od ks vs)) => ρ.set i (some (.d (.dct ks vs))) | _ => ρ) := (rfl)
@[simp] theorem bName_ap (i : Nat) (d : D) (ρ : En) : bName i d ρ = some (ρ.set i (some (.d d))) := (rfl)
@[simp] theorem bTup_ap (is : List Nat) (ds : List D) (ρ : En) : bTup is (.tup ds) ρ = if ds.length = is.length then some (setsE is ds ρ) else none := (rfl)
@[simp] theorem isi_ll (T : String) (xs : List D) : isiD T (.lst xs) = M.ret (.bl (T == "list")) := (rfl)
@[simp] theorem isi_tt (T : String) (xs : List D) : isiD T (.tup xs) = M.ret (.bl (T == "tuple")) := (rfl)
@[simp] theorem isi_ii (T : String) (i : Int) : isiD T (.int i) = M.ret (.bl (T == "int")) := (rfl)
@[simp] theorem isi_ss (T : String) (i : Str) : isiD T (.str i) = M.ret (.bl (T == "str")) := (rfl)
@[simp] theorem isi_bb (T : String) (i : Bool) : isiD T (.bl i) = M.ret (.bl (T == "int" || T == "bool")) := (rfl)
@[simp] theorem isi_nn (T : String) : isiD T .non = M.ret (.bl false) := (rfl)
/-- a comprehension that only looks -/
theorem lcM_pure {ι : Type} {ρ0 : En} {b : Bd} {t : Tx} {el : Ex} (enc : ι → D) (p : ι → Bool) (g : ι → D) : ∀ (xs : List ι), (∀ x ∈ xs, ∃ ρ, b (enc x) ρ0 = some ρ ∧ t ρ = M.ret (p x) ∧ (p x = true → el ρ = M.ret (g x))) →
    lcM ρ0 b t el (xs.map enc) = M.ret ((xs.filter p).map g)
  | [], _ => rfl
  | x :: xs, h => by
    obtain ⟨ρ, h1, h2, h3⟩ := h x List.mem_cons_self
    have ih := lcM_pure (ρ0 := ρ0) (b := b) (t := t) (el := el) enc p g xs fun y hy => h y (List.mem_cons_of_mem _ hy)
    rw [List.map_cons]
    unfold lcM
    rw [h1]
    simp only [h2, ret_bind]
    cases hp : p x with
    | true => rw [if_pos rfl, h3 hp, ret_bind, ih, ret_bind, List.filter_cons_of_pos hp]; rfl
    | false => rw [if_neg (by simp), ih, List.filter_cons_of_neg (by simp [hp])]
theorem filter_tt {α : Type} (xs : List α) : xs.filter (fun _ => true) = xs := by simp
@[simp] theorem all_tt {α : Type} (xs : List α) : xs.all (fun _ => true) = true := List.all_eq_true.mpr fun _ _ => rfl
theorem all_ret {ι : Type} (xs : List ι) (p : ι → Bool) : allM (.lst (xs.map fun x => .bl (p x))) = M.ret (.bl (xs.all p)) := by
  have e : (xs.map fun x => D.bl (p x)) = (xs.map p).map D.bl := by rw [List.map_map]; rfl
  rw [e]
  show (match blsOf ((xs.map p).map D.bl) with | some bs => M.ret (D.bl (bs.all id)) | none => M.fail) = _
  rw [blsOf_map]
  simp [List.all_map, Function.comp_def]
theorem any_ret {ι : Type} (xs : List ι) (p : ι → Bool) : anyM (.lst (xs.map fun x => .bl (p x))) = M.ret (.bl (xs.any p)) := by
  have e : (xs.map fun x => D.bl (p x)) = (xs.map p).map D.bl := by rw [List.map_map]; rfl
  rw [e]
  show (match blsOf ((xs.map p).map D.bl) with | some bs => M.ret (D.bl (bs.any id)) | none => M.fail) = _
  rw [blsOf_map]
  simp [List.any_map, Function.comp_def]
theorem ix_tup_ {ds : List D} {i : Int} {k : Nat} {d : D} (hi : i = (k : Int)) (h : ds[k]? = some d) : ixM (.tup ds) (.int i) = M.ret d := by
  subst hi
  have lt : k < ds.length := (List.getElem?_eq_some_iff.mp h).1
  simp only [ixM, ixM0, atI, ixN]
  rw [if_pos (by omega), if_pos (by omega)]
  simp [h, M.ofO]
theorem ix_lst_ {ds : List D} {i : Int} {k : Nat} {d : D} (hi : i = (k : Int)) (h : ds[k]? = some d) : ixM (.lst ds) (.int i) = M.ret d := by
  subst hi
  have lt : k < ds.length := (List.getElem?_eq_some_iff.mp h).1
  simp only [ixM, ixM0, atI, ixN]
  rw [if_pos (by omega), if_pos (by omega)]
  simp [h, M.ofO]
theorem rng1_ret {j : Int} (h : 0 ≤ j) (h2 : j ≤ 1000) : rng1M [.int j] = M.ret ((List.range j.toNat).map fun (k : Nat) => .int (k : Int)) := by
  have z : (1000 : Nat) ≤ sizeLine := by decide
  show (if (inB j && decide (j.toNat ≤ sizeLine)) = true then M.ret (rngL 0 j.toNat) else M.fail) = _
  rw [if_pos]
  · simp [rngL]
  · simp only [Bool.and_eq_true, decide_eq_true_eq, inB]
    refine ⟨⟨by omega, by omega⟩, by omega⟩
theorem enum_zip (xs : List D) : enumL xs = xs.zipIdx.map fun q => .tup [.int (q.2 : Int), q.1] := by
  unfold enumL
  apply List.ext_getElem?
  intro i
  simp only [List.getElem?_mapIdx, List.getElem?_map, List.getElem?_zipIdx]
  cases xs[i]? <;> simp
abbrev P2 := Int × Int
def eP (p : P2) : D := .tup [.int p.1, .int p.2]
def ePs (xs : List P2) : D := .tup (xs.map eP)
theorem okDs_map {ι : Type} (f : ι → D) (n : Nat) (h : ∀ x, okD (f x) n = true) : ∀ xs : List ι, okDs (xs.map f) n = true
  | [] => rfl
  | x :: xs => by rw [List.map_cons, okDs, h x, okDs_map f n h xs]; rfl
@[simp] theorem okD_int (i : Int) (n : Nat) : okD (.int i) n = true := by cases n <;> rfl
@[simp] theorem okD_str (i : Str) (n : Nat) : okD (.str i) n = true := by cases n <;> rfl
@[simp] theorem okD_non (n : Nat) : okD .non n = true := by cases n <;> rfl
@[simp] theorem okD_bl (b : Bool) (n : Nat) : okD (.bl b) n = true := by cases n <;> rfl
@[simp] theorem okD_tup (xs : List D) (n : Nat) : okD (.tup xs) (n + 1) = okDs xs n := (rfl)
@[simp] theorem okD_lst (xs : List D) (n : Nat) : okD (.lst xs) (n + 1) = okDs xs n := (rfl)
@[simp] theorem okDs_nil (n : Nat) : okDs [] n = true := (rfl)
@[simp] theorem okDs_cons (x : D) (xs : List D) (n : Nat) : okDs (x :: xs) n = (okD x n && okDs xs n) := (rfl)
theorem okD_eP (p : P2) (n : Nat) : okD (eP p) (n + 1) = true := by simp [eP]
theorem okD_ePs (xs : List P2) (n : Nat) : okD (ePs xs) (n + 2) = true := by unfold ePs; rw [okD_tup]; exact okDs_map eP _ (fun p => okD_eP p n) xs
@[simp] theorem eqB_ii (i j : Int) : eqB (.int i) (.int j) = (i == j) := (rfl)
@[simp] theorem eqB_ss (i j : Str) : eqB (.str i) (.str j) = (i == j) := (rfl)
@[simp] theorem eqB_tt (xs ys : List D) : eqB (.tup xs) (.tup ys) = eqBs xs ys := (rfl)
@[simp] theorem eqB_ll (xs ys : List D) : eqB (.lst xs) (.lst ys) = eqBs xs ys := (rfl)
@[simp] theorem eqBs_nn : eqBs [] [] = true := (rfl)
@[simp] theorem eqBs_cc (x y : D) (xs ys : List D) : eqBs (x :: xs) (y :: ys) = (eqB x y && eqBs xs ys) := (rfl)
@[simp] theorem eqBs_nc (y : D) (ys : List D) : eqBs [] (y :: ys) = false := (rfl)
@[simp] theorem eqBs_cn (y : D) (ys : List D) : eqBs (y :: ys) [] = false := (rfl)
@[simp] theorem eqB_iN (i : Int) : eqB (.int i) .non = false := (rfl)
@[simp] theorem eqB_Ni (i : Int) : eqB .non (.int i) = false := (rfl)
@[simp] theorem eqB_NN : eqB .non .non = true := (rfl)
@[simp] theorem eqB_bb (a b : Bool) : eqB (.bl a) (.bl b) = (a == b) := (rfl)
@[simp] theorem eqB_eP (p q : P2) : eqB (eP p) (eP q) = decide (p = q) := by
  obtain ⟨a, b⟩ := p
  obtain ⟨d, e⟩ := q
  simp only [eP, eqB_tt, eqBs_cc, eqB_ii, eqBs_nn, Bool.and_true, Prod.mk.injEq]
  by_cases h : a = d <;> by_cases h2 : b = e <;> simp [h, h2]
theorem in_pairs (neg : Bool) (q : P2) (xs : List P2) : inM neg (eP q) (ePs xs) = M.ret (.bl (xor neg (decide (q ∈ xs)))) := by
  have h1 : okD (eP q) 64 = true := okD_eP q 63
  have h2 : okD (ePs xs) 64 = true := okD_ePs xs 62
  have e : ((xs.map eP).any fun z => eqB z (eP q)) = decide (q ∈ xs) := by
    rw [List.any_map]
    simp only [Function.comp_def, eqB_eP]
    by_cases h : q ∈ xs
    · rw [decide_eq_true h]
      exact List.any_eq_true.mpr ⟨q, h, by simp⟩
    · rw [decide_eq_false h]
      exact List.any_eq_false.mpr fun x hx z => h (by rw [← of_decide_eq_true z]; exact hx)
  unfold ePs at h2 ⊢
  simp only [inM, inM0, h1, h2, Bool.and_self, if_true, e]
def ltP (p q : P2) : Bool := decide (p.1 < q.1 ∨ (p.1 = q.1 ∧ p.2 < q.2))
theorem lt_eP (p q : P2) : ltM (eP p) (eP q) = M.ret (.bl (ltP p q)) := by
  obtain ⟨a, b⟩ := p
  obtain ⟨d, e⟩ := q
  have h : HT.lexLt [a, b] [d, e] = ltP (a, b) (d, e) := by
    simp only [HT.lexLt, ltP]
    by_cases h1 : a = d
    · subst h1
      simp
      omega
    · simp [h1]
  simp [eP, ltM, intsOf, h]
@[simp] theorem sz0 : (0 ≤ sizeLine) = True := by simp
@[simp] theorem sz1 : (1 ≤ sizeLine) = True := eq_true (by decide)
@[simp] theorem sz2 : (2 ≤ sizeLine) = True := eq_true (by decide)
@[simp] theorem sz3 : (3 ≤ sizeLine) = True := eq_true (by decide)
@[simp] theorem sz4 : (4 ≤ sizeLine) = True := eq_true (by decide)
@[simp] theorem sz5 : (5 ≤ sizeLine) = True := eq_true (by decide)
@[simp] theorem sz6 : (6 ≤ sizeLine) = True := eq_true (by decide)
theorem szn {n : Nat} (h : n ≤ 1000) : n ≤ sizeLine := Nat.le_trans h (by decide)
theorem szl {n : Nat} (h : n < 1000) : n < sizeLine := Nat.lt_of_lt_of_le h (by decide)
@[simp] theorem in_pairs' (neg : Bool) (a b : Int) (xs : List P2) : inM neg (.tup [.int a, .int b]) (ePs xs) = M.ret (.bl (xor neg (decide ((a, b) ∈ xs)))) := in_pairs neg (a, b) xs
@[simp] theorem in_two (neg : Bool) (x a b : Int) : inM neg (.int x) (.tup [.int a, .int b]) = M.ret (.bl (xor neg (a == x || b == x))) := by simp [inM, inM0]
@[simp] theorem in_twoS (neg : Bool) (x a b : Str) : inM neg (.str x) (.tup [.str a, .str b]) = M.ret (.bl (xor neg (a == x || b == x))) := by simp [inM, inM0]
@[simp] theorem forM_nil (b : Bd) (body : Sx) (ρ : En) : forM b body [] ρ = M.ret (.nx ρ) := (rfl)
theorem forM_cons (b : Bd) (body : Sx) (x : D) (xs : List D) (ρ ρ1 ρ2 : En) (h1 : b x ρ = some ρ1) (h2 : body ρ1 = M.ret (.nx ρ2)) : forM b body (x :: xs) ρ = forM b body xs ρ2 := by
  show (match b x ρ with | none => M.fail | some ρ1 => body ρ1 >>= fun fl => match fl with | .nx ρ2 => forM b body xs ρ2 | .ct ρ2 => forM b body xs ρ2 | .bk ρ2 => M.ret (.nx ρ2) | .rt d => M.ret (.rt d)) = _
  rw [h1]
  simp only [h2, ret_bind]
theorem app_ret (i : Nat) (f : Ex) (ρ : En) (ds : List D) (d : D) (h1 : ρ[i]? = some (some (.ol ds))) (h2 : f ρ = M.ret d) (h3 : ds.length < 1000) : sApp i f ρ = M.ret (.nx (ρ.set i (some (.ol (ds ++ [d]))))) := by
  unfold sApp
  rw [h1]
  simp only [h2, ret_bind]
  rw [if_pos (szl h3)]
theorem sort_ints (ns : List Int) : sortA (.lst (ns.map .int)) = M.ret ((isort ns).map .int) := by
  show (match intsOf (ns.map .int) with | some ns => M.ret ((isort ns).map D.int) | none => _) = _
  rw [intsOf_map]
theorem eq_ret {x y : D} (hx : okD x 64 = true) (hy : okD y 64 = true) : eqM x y = M.ret (.bl (eqB x y)) := by simp [eqM, hx, hy]
theorem ne_ret {x y : D} (hx : okD x 64 = true) (hy : okD y 64 = true) : neM x y = M.ret (.bl (!eqB x y)) := by simp [neM, hx, hy]
@[simp] theorem eq_ii (i j : Int) : eqM (.int i) (.int j) = M.ret (.bl (i == j)) := (rfl)
@[simp] theorem ne_ii (i j : Int) : neM (.int i) (.int j) = M.ret (.bl (!(i == j))) := (rfl)
@[simp] theorem eq_ss (i j : Str) : eqM (.str i) (.str j) = M.ret (.bl (i == j)) := (rfl)
@[simp] theorem ne_ss (i j : Str) : neM (.str i) (.str j) = M.ret (.bl (!(i == j))) := (rfl)
@[simp] theorem eq_bb (i j : Bool) : eqM (.bl i) (.bl j) = M.ret (.bl (i == j)) := (rfl)
@[simp] theorem ne_bb (i j : Bool) : neM (.bl i) (.bl j) = M.ret (.bl (!(i == j))) := (rfl)
@[simp] theorem ix_t0 (x : D) (xs : List D) : ixM (.tup (x :: xs)) (.int 0) = M.ret x := ix_tup_ (k := 0) rfl rfl
@[simp] theorem ix_t1 (x y : D) (xs : List D) : ixM (.tup (x :: y :: xs)) (.int 1) = M.ret y := ix_tup_ (k := 1) rfl rfl
@[simp] theorem ix_t2 (x y z : D) (xs : List D) : ixM (.tup (x :: y :: z :: xs)) (.int 2) = M.ret z := ix_tup_ (k := 2) rfl rfl
@[simp] theorem ix_t3 (x y z u : D) (xs : List D) : ixM (.tup (x :: y :: z :: u :: xs)) (.int 3) = M.ret u := ix_tup_ (k := 3) rfl rfl
@[simp] theorem ix_t4 (x y z u v : D) (xs : List D) : ixM (.tup (x :: y :: z :: u :: v :: xs)) (.int 4) = M.ret v := ix_tup_ (k := 4) rfl rfl
@[simp] theorem ix_l0 (x : D) (xs : List D) : ixM (.lst (x :: xs)) (.int 0) = M.ret x := ix_lst_ (k := 0) rfl rfl
@[simp] theorem ix_l1 (x y : D) (xs : List D) : ixM (.lst (x :: y :: xs)) (.int 1) = M.ret y := ix_lst_ (k := 1) rfl rfl
@[simp] theorem seq_ePs (xs : List P2) : seqM (ePs xs) = M.ret (xs.map eP) := (rfl)
@[simp] theorem len_ePs (xs : List P2) : lenM (ePs xs) = M.ret (.int xs.length) := by simp [ePs]
@[simp] theorem isi_ePs (T : String) (xs : List P2) : isiD T (ePs xs) = M.ret (.bl (T == "tuple")) := (rfl)
@[simp] theorem enum_ePs (xs : List P2) : enumM [ePs xs] = M.ret (xs.zipIdx.map fun q => .tup [.int (q.2 : Int), eP q.1]) := by
  unfold ePs enumM
  simp only
  rw [enum_zip, List.zipIdx_map, List.map_map]
  rfl
end WW
set_option maxHeartbeats 4000000
namespace WW
open PySem PySem.Spec L2
theorem is_whole_i (x a b : Int) : WP.F_is_whole [.int x, .int a, .int b] = M.ret (.bl (decide (a ≤ x) && decide (x ≤ b))) := by
  simp [WP.F_is_whole, WP.b_is_whole]
  by_cases h : a ≤ x <;> simp [h]
theorem big100 : (100 : Nat) ≤ sizeLine := by decide
structure PairsOk (xs : List P2) (m n : Int) : Prop where
  rng : ∀ p ∈ xs, 0 ≤ p.1 ∧ p.1 < m ∧ 0 ≤ p.2 ∧ p.2 < n
  inc : xs.Pairwise fun p q => ltP p q = true
  len : xs.length ≤ 100
/-- lcM over data as they stand -/
theorem lcM_id {ρ0 : En} {b : Bd} {t : Tx} {el : Ex} (p : D → Bool) (g : D → D) (xs : List D) (h : ∀ x ∈ xs, ∃ ρ, b x ρ0 = some ρ ∧ t ρ = M.ret (p x) ∧ (p x = true → el ρ = M.ret (g x))) :
    lcM ρ0 b t el xs = M.ret ((xs.filter p).map g) := by
  have q := lcM_pure (ρ0 := ρ0) (b := b) (t := t) (el := el) (fun x : D => x) p g xs h
  simpa using q
/-- .. all of them, each told -/
theorem lcM_all {ι : Type} {ρ0 : En} {b : Bd} {el : Ex} (enc : ι → D) (g : ι → D) (xs : List ι) (h : ∀ x ∈ xs, ∃ ρ, b (enc x) ρ0 = some ρ ∧ el ρ = M.ret (g x)) : lcM ρ0 b tAll el (xs.map enc) = M.ret (xs.map g) := by
  have q := lcM_pure (ρ0 := ρ0) (b := b) (t := tAll) (el := el) enc (fun _ => true) g xs fun x hx => by
    obtain ⟨ρ, h1, h2⟩ := h x hx
    exact ⟨ρ, h1, rfl, fun _ => h2⟩
  rwa [filter_tt] at q
theorem are_pairs_ok {xs : List P2} {m n : Int} (h : PairsOk xs m n) : WP.F_are_pairs [ePs xs, .int m, .int n] = M.ret (.bl true) := by
  have z := big100
  have hl := h.len
  simp only [WP.F_are_pairs, runB_ap, WP.b_are_pairs]
  simp
  rw [lcM_all eP (fun _ => .bl true) xs fun p hp => ⟨_, rfl, by simp [eP]⟩]
  simp only [noX_ret, ret_bind, all_ret]
  simp
  rw [lcM_all eP (fun _ => .bl true) xs fun p hp => ⟨_, rfl, by
    obtain ⟨h1, h2, h3, h4⟩ := h.rng p hp
    have e1 : p.1 ≤ m - 1 := by omega
    have e2 : p.2 ≤ n - 1 := by omega
    simp [eP, is_whole_i, h1, h3, e1, e2]⟩]
  simp only [noX_ret, ret_bind, all_ret]
  simp
  by_cases e : xs = []
  · subst e
    rfl
  have pos : 0 < xs.length := by cases xs <;> simp_all
  rw [rng1_ret (by omega) (by omega)]
  simp only [ret_bind]
  rw [lcM_all (fun k : Nat => D.int (k : Int)) (fun _ => .bl true) _ fun k hk => ⟨_, rfl, by
    have lt : k + 1 < xs.length := by
      have := List.mem_range.mp hk
      omega
    have l1 : ixM (ePs xs) (.int (k : Int)) = M.ret (eP xs[k]) := ix_tup_ rfl (by simp [show k < xs.length by omega])
    have l2 : ixM (ePs xs) (.int ((k : Int) + 1)) = M.ret (eP xs[k + 1]) := ix_tup_ (k := k + 1) (by omega) (by simp [lt])
    have l3 : ltP xs[k] xs[k + 1] = true := List.pairwise_iff_getElem.mp h.inc k (k + 1) _ _ (by omega)
    simp [l1, l2, lt_eP, l3]⟩]
  simp only [noX_ret, ret_bind, all_ret]
  simp
structure Hs where
  rooms : Int
  doors : List P2
  last : Int
  shut : List P2
  dark : List P2
def eH (h : Hs) : D := .tup [.int h.rooms, ePs h.doors, .int h.last, ePs h.shut, ePs h.dark]
structure HOk (h : Hs) : Prop where
  r1 : 1 ≤ h.rooms
  r2 : h.rooms ≤ 6
  l1 : 0 ≤ h.last
  l2 : h.last ≤ 12
  d : PairsOk h.doors h.rooms h.rooms
  dlt : ∀ p ∈ h.doors, p.1 < p.2
  s : PairsOk h.shut (h.last + 1) h.doors.length
  k : PairsOk h.dark (h.last + 1) h.rooms
theorem okD_eH (h : Hs) (n : Nat) : okD (eH h) (n + 3) = true := by simp [eH, okD_ePs]
theorem is_house_ok {h : Hs} (k : HOk h) : WP.F_is_house [eH h] = M.ret (.bl true) := by
  have k1 := k.r1
  have k2 := k.r2
  have k3 := k.l1
  have k4 := k.l2
  have ar := are_pairs_ok k.d
  have as := are_pairs_ok k.s
  have ak := are_pairs_ok k.k
  simp only [WP.F_is_house, runB_ap, WP.b_is_house, eH]
  simp [is_whole_i, k1, k2, ar]
  rw [lcM_all eP (fun _ => .bl false) h.doors fun p hp => ⟨_, rfl, by
    have := k.dlt p hp
    have e : ¬ (p.2 ≤ p.1) := by omega
    simp [eP, e]⟩]
  simp only [noX_ret, ret_bind, any_ret]
  have e0 : (h.doors.any fun _ => false) = false := by simp
  simp [e0, is_whole_i, k3, k4, as, ak]
theorem look_house_ok {h : Hs} (k : HOk h) {m : Int} (h1 : 1 ≤ m) (h2 : m ≤ 4) : WP.F_look_house [eH h, .int m] = M.ret .non := by
  simp only [WP.F_look_house, runB_ap, WP.b_look_house]
  simp [is_house_ok k, is_whole_i, h1, h2]
@[simp] theorem eH_0 (h : Hs) : ixM (eH h) (.int 0) = M.ret (.int h.rooms) := by simp [eH]
@[simp] theorem eH_1 (h : Hs) : ixM (eH h) (.int 1) = M.ret (ePs h.doors) := by simp [eH]
@[simp] theorem eH_2 (h : Hs) : ixM (eH h) (.int 2) = M.ret (.int h.last) := by simp [eH]
@[simp] theorem eH_3 (h : Hs) : ixM (eH h) (.int 3) = M.ret (ePs h.shut) := by simp [eH]
@[simp] theorem eH_4 (h : Hs) : ixM (eH h) (.int 4) = M.ret (ePs h.dark) := by simp [eH]
theorem look_beat_ok (h : Hs) {b : Int} (h1 : 0 ≤ b) (h2 : b ≤ h.last) : WP.F_look_beat [eH h, .int b] = M.ret .non := by
  simp only [WP.F_look_beat, runB_ap, WP.b_look_beat]
  simp [is_whole_i, h1, h2]
theorem look_room_ok (h : Hs) {r : Int} (h1 : 0 ≤ r) (h2 : r < h.rooms) : WP.F_look_room [eH h, .int r] = M.ret .non := by
  have e : r ≤ h.rooms - 1 := by omega
  simp only [WP.F_look_room, runB_ap, WP.b_look_room]
  simp [is_whole_i, h1, e]
def opn (h : Hs) (beat : Int) : List P2 := (h.doors.zipIdx.filter fun q => !decide ((beat, (q.2 : Int)) ∈ h.shut)).map (·.1)
theorem open_doors_ok (h : Hs) (beat : Int) : WP.F_open_doors [eH h, .int beat] = M.ret (.lst ((opn h beat).map eP)) := by
  simp only [WP.F_open_doors, runB_ap, WP.b_open_doors]
  simp
  rw [lcM_pure (fun q : P2 × Nat => .tup [.int (q.2 : Int), eP q.1]) (fun q => !decide ((beat, (q.2 : Int)) ∈ h.shut)) (fun q => eP q.1) h.doors.zipIdx fun q hq => ⟨_, rfl, by simp, by simp⟩]
  simp [opn, List.map_map, Function.comp_def]
def bsd (ps : List P2) (room : Int) : List Int := (ps.filter fun p => p.1 == room || p.2 == room).map fun p => p.1 + p.2 - room
theorem beside_loop (H room beat : D) (r : Int) (hr : room = .int r) : ∀ (ps : List P2) (acc : List Int) (x y : Option SV), acc.length + ps.length ≤ 100 → ∃ x' y', forM (bTup [4, 5]) (sIf (tVal (d2 (inM false) (dVar 1) (dTup [(dVar 4), (dVar 5)]))) (sApp 3 (d2 subM (d2 addM (dVar 4) (dVar 5)) (dVar 1))) sNil) (ps.map eP)
      [some (.d H), some (.d room), some (.d beat), some (.ol (acc.map .int)), x, y] = M.ret (.nx [some (.d H), some (.d room), some (.d beat), some (.ol ((acc ++ bsd ps r).map .int)), x', y'])
  | [], acc, x, y, _ => ⟨x, y, by simp [bsd]⟩
  | p :: ps, acc, x, y, hl => by
    subst hr
    rw [List.length_cons] at hl
    rw [List.map_cons]
    cases hp : (p.1 == r || p.2 == r) with
    | true =>
      obtain ⟨x', y', h⟩ := beside_loop H (.int r) beat r rfl ps (acc ++ [p.1 + p.2 - r]) (some (.d (.int p.1))) (some (.d (.int p.2))) (by simp; omega)
      refine ⟨x', y', ?_⟩
      rw [forM_cons _ _ _ _ _ _ _ rfl (by
        simp [hp]
        rw [app_ret 3 _ _ (acc.map .int) (.int (p.1 + p.2 - r)) rfl (by simp) (by simp; omega)])]
      simp only [List.set_cons_succ, List.set_cons_zero]
      rw [show acc.map D.int ++ [.int (p.1 + p.2 - r)] = (acc ++ [p.1 + p.2 - r]).map .int by simp]
      rw [h]
      simp [bsd, List.filter_cons, hp]
    | false =>
      obtain ⟨x', y', h⟩ := beside_loop H (.int r) beat r rfl ps acc (some (.d (.int p.1))) (some (.d (.int p.2))) (by omega)
      refine ⟨x', y', ?_⟩
      rw [forM_cons _ _ _ _ _ _ [some (.d H), some (.d (.int r)), some (.d beat), some (.ol (acc.map .int)), some (.d (.int p.1)), some (.d (.int p.2))] rfl (by simp [hp])]
      rw [h]
      simp [bsd, List.filter_cons, hp]
def side (h : Hs) (room beat : Int) : List Int := bsd (opn h beat) room
theorem opn_len (h : Hs) (b : Int) : (opn h b).length ≤ h.doors.length := by
  unfold opn
  rw [List.length_map]
  exact Nat.le_trans (List.length_filter_le _ _) (by simp)
theorem beside_ok {h : Hs} (k : HOk h) (room beat : Int) : WP.F_beside [eH h, .int room, .int beat] = M.ret (.lst ((isort (side h room beat)).map .int)) := by
  simp only [WP.F_beside, runB_ap, WP.b_beside]
  simp [open_doors_ok]
  obtain ⟨x', y', e⟩ := beside_loop (eH h) (.int room) (.int beat) room rfl (opn h beat) [] none none (by have := opn_len h beat; have := k.d.len; simp; omega)
  simp only [List.map_nil, List.nil_append] at e
  rw [e]
  simp [sort_ints, side]
theorem isort_eq {a b : List Int} (h : a.Perm b) : isort a = isort b := sorted_uniq (((isort_perm a).trans h).trans (isort_perm b).symm) (isort_sorted a) (isort_sorted b)
theorem add_ints (a b : List Int) (h : a.length + b.length ≤ 1000) : addM (.lst (a.map .int)) (.lst (b.map .int)) = M.ret (.lst ((a ++ b).map .int)) := by
  have e : a.length + b.length ≤ sizeLine := szn h
  simp [addM, e]
theorem bsd_len (ps : List P2) (r : Int) : (bsd ps r).length ≤ ps.length := by unfold bsd; rw [List.length_map]; exact List.length_filter_le _ _
theorem side_len {h : Hs} (k : HOk h) (r b : Int) : (side h r b).length ≤ 100 := Nat.le_trans (bsd_len _ _) (Nat.le_trans (opn_len h b) k.d.len)
theorem next_rooms_ok {h : Hs} (k : HOk h) {r b : Int} (h1 : 0 ≤ r) (h2 : r < h.rooms) (h3 : 0 ≤ b) (h4 : b ≤ h.last) : WP.F_next_rooms [eH h, .int r, .int b] = M.ret (.lst ((isort (r :: side h r b)).map .int)) := by
  have e := add_ints [r] (isort (side h r b)) (by have := side_len k r b; rw [(isort_perm _).length_eq]; simp; omega)
  rw [List.map_cons, List.map_nil] at e
  simp only [WP.F_next_rooms, runB_ap, WP.b_next_rooms]
  simp [look_house_ok k, look_room_ok h h1 h2, look_beat_ok h h3 h4, beside_ok k, e]
  have e2 := sort_ints (r :: isort (side h r b))
  rw [List.map_cons] at e2
  rw [e2, isort_eq ((isort_perm (side h r b)).cons r)]
  rfl
end WW
set_option maxHeartbeats 4000000
namespace WW
open PySem PySem.Spec L2
@[simp] theorem w_at_at : ((Str.ofString "at") == (Str.ofString "at")) = true := by decide +kernel
@[simp] theorem w_at_not : ((Str.ofString "at") == (Str.ofString "not")) = false := by decide +kernel
@[simp] theorem w_at_saw : ((Str.ofString "at") == (Str.ofString "saw")) = false := by decide +kernel
@[simp] theorem w_at_missed : ((Str.ofString "at") == (Str.ofString "missed")) = false := by decide +kernel
@[simp] theorem w_at_alone : ((Str.ofString "at") == (Str.ofString "alone")) = false := by decide +kernel
@[simp] theorem w_at_heard : ((Str.ofString "at") == (Str.ofString "heard")) = false := by decide +kernel
@[simp] theorem w_not_at : ((Str.ofString "not") == (Str.ofString "at")) = false := by decide +kernel
@[simp] theorem w_not_not : ((Str.ofString "not") == (Str.ofString "not")) = true := by decide +kernel
@[simp] theorem w_not_saw : ((Str.ofString "not") == (Str.ofString "saw")) = false := by decide +kernel
@[simp] theorem w_not_missed : ((Str.ofString "not") == (Str.ofString "missed")) = false := by decide +kernel
@[simp] theorem w_not_alone : ((Str.ofString "not") == (Str.ofString "alone")) = false := by decide +kernel
@[simp] theorem w_not_heard : ((Str.ofString "not") == (Str.ofString "heard")) = false := by decide +kernel
@[simp] theorem w_saw_at : ((Str.ofString "saw") == (Str.ofString "at")) = false := by decide +kernel
@[simp] theorem w_saw_not : ((Str.ofString "saw") == (Str.ofString "not")) = false := by decide +kernel
@[simp] theorem w_saw_saw : ((Str.ofString "saw") == (Str.ofString "saw")) = true := by decide +kernel
@[simp] theorem w_saw_missed : ((Str.ofString "saw") == (Str.ofString "missed")) = false := by decide +kernel
@[simp] theorem w_saw_alone : ((Str.ofString "saw") == (Str.ofString "alone")) = false := by decide +kernel
@[simp] theorem w_saw_heard : ((Str.ofString "saw") == (Str.ofString "heard")) = false := by decide +kernel
@[simp] theorem w_missed_at : ((Str.ofString "missed") == (Str.ofString "at")) = false := by decide +kernel
@[simp] theorem w_missed_not : ((Str.ofString "missed") == (Str.ofString "not")) = false := by decide +kernel
@[simp] theorem w_missed_saw : ((Str.ofString "missed") == (Str.ofString "saw")) = false := by decide +kernel
@[simp] theorem w_missed_missed : ((Str.ofString "missed") == (Str.ofString "missed")) = true := by decide +kernel
@[simp] theorem w_missed_alone : ((Str.ofString "missed") == (Str.ofString "alone")) = false := by decide +kernel
@[simp] theorem w_missed_heard : ((Str.ofString "missed") == (Str.ofString "heard")) = false := by decide +kernel
@[simp] theorem w_alone_at : ((Str.ofString "alone") == (Str.ofString "at")) = false := by decide +kernel
@[simp] theorem w_alone_not : ((Str.ofString "alone") == (Str.ofString "not")) = false := by decide +kernel
@[simp] theorem w_alone_saw : ((Str.ofString "alone") == (Str.ofString "saw")) = false := by decide +kernel
@[simp] theorem w_alone_missed : ((Str.ofString "alone") == (Str.ofString "missed")) = false := by decide +kernel
@[simp] theorem w_alone_alone : ((Str.ofString "alone") == (Str.ofString "alone")) = true := by decide +kernel
@[simp] theorem w_alone_heard : ((Str.ofString "alone") == (Str.ofString "heard")) = false := by decide +kernel
@[simp] theorem w_heard_at : ((Str.ofString "heard") == (Str.ofString "at")) = false := by decide +kernel
@[simp] theorem w_heard_not : ((Str.ofString "heard") == (Str.ofString "not")) = false := by decide +kernel
@[simp] theorem w_heard_saw : ((Str.ofString "heard") == (Str.ofString "saw")) = false := by decide +kernel
@[simp] theorem w_heard_missed : ((Str.ofString "heard") == (Str.ofString "missed")) = false := by decide +kernel
@[simp] theorem w_heard_alone : ((Str.ofString "heard") == (Str.ofString "alone")) = false := by decide +kernel
@[simp] theorem w_heard_heard : ((Str.ofString "heard") == (Str.ofString "heard")) = true := by decide +kernel
inductive Wd where
  | here | no | saw | missed | alone | heard
def Wd.s : Wd → Str
  | .here => "at" | .no => "not" | .saw => "saw" | .missed => "missed" | .alone => "alone" | .heard => "heard"
structure Cm where
  w : Wd
  who : Int
  beat : Int
  what : Int
def wh (c : Cm) : D := match c.w with
  | .alone => .non
  | .heard => .non
  | _ => .int c.what
def eC (c : Cm) : D := .tup [.str c.w.s, .int c.who, .int c.beat, wh c]
structure CmOk (h : Hs) (m : Int) (c : Cm) : Prop where
  w1 : 0 ≤ c.who
  w2 : c.who < m
  b1 : 0 ≤ c.beat
  b2 : c.beat ≤ h.last
  x : match c.w with
    | .here => 0 ≤ c.what ∧ c.what < h.rooms
    | .no => 0 ≤ c.what ∧ c.what < h.rooms
    | .saw => 0 ≤ c.what ∧ c.what < m ∧ c.what ≠ c.who
    | .missed => 0 ≤ c.what ∧ c.what < m ∧ c.what ≠ c.who
    | _ => True
def eS (st : List Int) : D := .tup (st.map .int)
structure StOk (h : Hs) (m : Int) (st : List Int) : Prop where
  len : (st.length : Int) = m
  rng : ∀ r ∈ st, 0 ≤ r ∧ r < h.rooms
@[simp] theorem len_eS (st : List Int) : lenM (eS st) = M.ret (.int st.length) := by simp [eS]
@[simp] theorem isi_eS (T : String) (st : List Int) : isiD T (eS st) = M.ret (.bl (T == "tuple")) := (rfl)
@[simp] theorem seq_eS (st : List Int) : seqM (eS st) = M.ret (st.map .int) := (rfl)
@[simp] theorem isi_eC (T : String) (c : Cm) : isiD T (eC c) = M.ret (.bl (T == "tuple")) := (rfl)
@[simp] theorem len_eC (c : Cm) : lenM (eC c) = M.ret (.int 4) := by simp [eC]
@[simp] theorem eC_0 (c : Cm) : ixM (eC c) (.int 0) = M.ret (.str c.w.s) := by simp [eC]
@[simp] theorem eC_1 (c : Cm) : ixM (eC c) (.int 1) = M.ret (.int c.who) := by simp [eC]
@[simp] theorem eC_2 (c : Cm) : ixM (eC c) (.int 2) = M.ret (.int c.beat) := by simp [eC]
@[simp] theorem eC_3 (c : Cm) : ixM (eC c) (.int 3) = M.ret (wh c) := by simp [eC]
theorem is_stand_ok {h : Hs} {m : Int} {st : List Int} (k : StOk h m st) : WP.F_is_stand [eH h, .int m, eS st] = M.ret (.bl true) := by
  simp only [WP.F_is_stand, runB_ap, WP.b_is_stand]
  simp [k.len]
  rw [lcM_all D.int (fun _ => .bl true) st fun r hr => ⟨_, rfl, by
    obtain ⟨h1, h2⟩ := k.rng r hr
    have e : r ≤ h.rooms - 1 := by omega
    simp [is_whole_i, h1, e]⟩]
  simp only [noX_ret, ret_bind, all_ret]
  simp
@[simp] theorem words_in (w : Wd) : inM true (.str w.s) (.tup WP.g_WORDS) = M.ret (.bl false) := by cases w <;> rfl
@[simp] theorem is_non (d : D) : isM false d .non = M.ret (.bl (isNon d)) := by
  cases d <;> rfl
theorem is_claim_ok {h : Hs} {m : Int} {c : Cm} (k : CmOk h m c) : WP.F_is_claim [eH h, .int m, eC c] = M.ret (.bl true) := by
  obtain ⟨w1, w2, b1, b2, x⟩ := k
  have e1 : c.who ≤ m - 1 := by omega
  obtain ⟨w, who, beat, what⟩ := c
  simp only at w1 w2 b1 b2 x e1
  simp only [WP.F_is_claim, runB_ap, WP.b_is_claim]
  have wi := fun w : Wd => words_in w
  cases w
  case here =>
    have e2 : what ≤ h.rooms - 1 := by have := x.2; omega
    have := wi .here
    simp only [Wd.s] at this
    simp [eC, Wd.s, wh, is_whole_i, w1, e1, b1, b2, x.1, e2, this]
  case no =>
    have e2 : what ≤ h.rooms - 1 := by have := x.2; omega
    have := wi .no
    simp only [Wd.s] at this
    simp [eC, Wd.s, wh, is_whole_i, w1, e1, b1, b2, x.1, e2, this]
  case saw =>
    have e2 : what ≤ m - 1 := by have := x.2.1; omega
    have := wi .saw
    have e3 : (what == who) = false := beq_eq_false_iff_ne.mpr x.2.2
    simp only [Wd.s] at this
    simp [eC, Wd.s, wh, is_whole_i, w1, e1, b1, b2, x.1, e2, e3, this]
  case missed =>
    have e2 : what ≤ m - 1 := by have := x.2.1; omega
    have := wi .missed
    have e3 : (what == who) = false := beq_eq_false_iff_ne.mpr x.2.2
    simp only [Wd.s] at this
    simp [eC, Wd.s, wh, is_whole_i, w1, e1, b1, b2, x.1, e2, e3, this]
  case alone =>
    have := wi .alone
    simp only [Wd.s] at this
    simp [eC, Wd.s, wh, is_whole_i, w1, e1, b1, b2, this, isNon]
  case heard =>
    have := wi .heard
    simp only [Wd.s] at this
    simp [eC, Wd.s, wh, is_whole_i, w1, e1, b1, b2, this, isNon]
def at_ (st : List Int) (i : Int) : Int := st.getD i.toNat 0
theorem ix_stand {st : List Int} {i : Int} (h1 : 0 ≤ i) (h2 : i < st.length) : ixM (eS st) (.int i) = M.ret (.int (at_ st i)) := by
  have lt : i.toNat < st.length := by omega
  refine ix_tup_ (k := i.toNat) (by omega) ?_
  rw [List.getElem?_map, List.getElem?_eq_getElem lt]
  simp [at_, lt]
theorem ok_ints (xs : List Int) (n : Nat) : okDs (xs.map D.int) n = true := okDs_map _ _ (fun _ => okD_int _ _) xs
theorem in_ints (neg : Bool) (x : Int) (ys : List Int) : inM neg (.int x) (.lst (ys.map .int)) = M.ret (.bl (xor neg (decide (x ∈ ys)))) := by
  have e : ((ys.map D.int).any fun z => eqB z (.int x)) = decide (x ∈ ys) := by
    rw [List.any_map]
    simp only [Function.comp_def, eqB_ii]
    by_cases h : x ∈ ys
    · rw [decide_eq_true h]; exact List.any_eq_true.mpr ⟨x, h, by simp⟩
    · rw [decide_eq_false h]; exact List.any_eq_false.mpr fun y hy z => h (by rw [← eq_of_beq z]; exact hy)
  simp [inM, inM0, ok_ints, e]
/-- where the others are -/
def others (st : List Int) (who : Int) : List Int := ((List.range st.length).filter fun (k : Nat) => !((k : Int) == who)).map fun (k : Nat) => at_ st (k : Int)
def holdsB (h : Hs) (st : List Int) (c : Cm) : Bool :=
  let r := at_ st c.who
  match c.w with
  | .here => r == c.what
  | .no => !(r == c.what)
  | .saw => (at_ st c.what == r) && !decide ((c.beat, r) ∈ h.dark)
  | .missed => !(at_ st c.what == r)
  | .alone => !decide (r ∈ others st c.who)
  | .heard => (side h r c.beat).any fun x => decide (x ∈ others st c.who)
theorem any_perm {a b : List Int} (h : a.Perm b) (p : Int → Bool) : a.any p = b.any p := by
  apply Bool.eq_iff_iff.mpr
  simp only [List.any_eq_true]
  exact ⟨fun ⟨x, h1, h2⟩ => ⟨x, h.mem_iff.mp h1, h2⟩, fun ⟨x, h1, h2⟩ => ⟨x, h.mem_iff.mpr h1, h2⟩⟩
theorem others_lc {ρ0 : En} {st : List Int} {who : Int} (h1 : ρ0[1]? = some (some (.d (eS st)))) (h6 : ρ0[6]? = some (some (.d (.int who)))) (h9 : 9 < ρ0.length) :
    lcM ρ0 (bName 9) (tVal (d2 neM (dVar 9) (dVar 6))) (d2 ixM (dVar 1) (dVar 9)) ((List.range st.length).map fun k : Nat => D.int (k : Int)) = M.ret ((others st who).map .int) := by
  rw [lcM_pure (fun k : Nat => D.int (k : Int)) (fun k => !((k : Int) == who)) (fun k : Nat => .int (at_ st (k : Int))) (List.range st.length) fun k hk => ⟨_, rfl, by
      simp [List.getElem?_set_self h9, List.getElem?_set_ne, h6], fun _ => by
      have e := ix_stand (st := st) (i := (k : Int)) (by omega) (by have := List.mem_range.mp hk; omega)
      simp [List.getElem?_set_self h9, List.getElem?_set_ne, h1, e]⟩]
  simp [others, List.map_map, Function.comp_def]
end WW
set_option maxHeartbeats 4000000
namespace WW
open PySem PySem.Spec L2
theorem holds_ok {h : Hs} (hk : HOk h) {m : Int} {st : List Int} {c : Cm} (sk : StOk h m st) (hm : m ≤ 4) (k : CmOk h m c) : WP.F_holds [eH h, eS st, eC c] = M.ret (.bl (holdsB h st c)) := by
  obtain ⟨w1, w2, b1, b2, x⟩ := k
  obtain ⟨w, who, beat, what⟩ := c
  simp only at w1 w2 b1 b2 x
  have sl := sk.len
  have l1 := ix_stand (st := st) w1 (by omega)
  simp only [WP.F_holds, runB_ap, WP.b_holds]
  cases w
  case here => simp [eC, Wd.s, wh, l1, holdsB]
  case no => simp [eC, Wd.s, wh, l1, holdsB]
  case saw =>
    have l2 := ix_stand (st := st) (i := what) x.1 (by omega)
    simp [eC, Wd.s, wh, l1, l2, holdsB]
    by_cases hq : at_ st what = at_ st who
    · simp [hq]
    · have h2 : (at_ st what == at_ st who) = false := beq_eq_false_iff_ne.mpr hq
      simp [hq, h2]
  case missed =>
    have l2 := ix_stand (st := st) (i := what) x.1 (by omega)
    simp [eC, Wd.s, wh, l1, l2, holdsB]
  case alone =>
    have r1 := rng1_ret (j := (st.length : Int)) (by omega) (by omega)
    simp [eC, Wd.s, wh, l1, r1]
    rw [others_lc (st := st) (who := who) (by rfl) (by rfl) (by simp)]
    simp [in_ints, holdsB]
  case heard =>
    have r1 := rng1_ret (j := (st.length : Int)) (by omega) (by omega)
    simp [eC, Wd.s, wh, l1, r1]
    rw [others_lc (st := st) (who := who) (by rfl) (by rfl) (by simp)]
    simp [beside_ok hk]
    rw [lcM_all D.int (fun x => .bl (decide (x ∈ others st who))) _ fun r hr => ⟨_, rfl, by simp [in_ints]⟩]
    simp only [noX_ret, ret_bind, any_ret]
    rw [any_perm (isort_perm _)]
    simp [holdsB]
theorem is_so_ok {h : Hs} (hk : HOk h) {m : Int} {st : List Int} {c : Cm} (sk : StOk h m st) (h1 : 1 ≤ m) (hm : m ≤ 4) (k : CmOk h m c) : WP.F_is_so [eH h, .int m, eS st, eC c] = M.ret (.bl (holdsB h st c)) := by
  simp only [WP.F_is_so, runB_ap, WP.b_is_so]
  simp [look_house_ok hk h1 hm, is_stand_ok sk, is_claim_ok k, holds_ok hk sk hm k]
end WW
set_option maxHeartbeats 4000000
namespace WW
open PySem PySem.Spec L2
theorem law_is_ok (a b : Bool) : WP.F__law_is [.bl a, .bl b] = M.ret (.bl (a == b)) := by
  simp only [WP.F__law_is, runB_ap, WP.b__law_is]
  simp [eq_ret]
theorem zip_range (ps : List P2) : ps.zipIdx = (List.range ps.length).map fun k => (ps.getD k (0, 0), k) := by
  apply List.ext_getElem?
  intro i
  rw [List.getElem?_zipIdx, List.getElem?_map]
  by_cases h : i < ps.length
  · rw [List.getElem?_eq_getElem h, List.getElem?_range h]
    simp [h]
  · rw [List.getElem?_eq_none (by omega), List.getElem?_eq_none (by simp; omega)]
    rfl
def stepS (h : Hs) (room beat : Int) (k : Nat) : Option Int :=
  let p := h.doors.getD k (0, 0)
  if !decide ((beat, (k : Int)) ∈ h.shut) && (p.1 == room || p.2 == room) then some (p.1 + p.2 - room) else none
theorem side_fm0 (h : Hs) (room beat : Int) : ∀ ks : List Nat, bsd (((ks.map fun k => (h.doors.getD k (0, 0), k)).filter fun q => !decide ((beat, (q.2 : Int)) ∈ h.shut)).map (·.1)) room = ks.filterMap (stepS h room beat)
  | [] => rfl
  | k :: ks => by
    have ih := side_fm0 h room beat ks
    rw [List.filterMap_cons, List.map_cons, List.filter_cons]
    by_cases h1 : (beat, (k : Int)) ∈ h.shut
    · rw [if_neg (by simp [h1]), ih]
      simp [stepS, h1]
    · rw [if_pos (by simp [h1]), List.map_cons]
      cases hp : ((h.doors.getD k (0, 0)).1 == room || (h.doors.getD k (0, 0)).2 == room) with
      | true =>
        have e : stepS h room beat k = some ((h.doors.getD k (0, 0)).1 + (h.doors.getD k (0, 0)).2 - room) := by
          unfold stepS
          rw [if_pos (by rw [hp]; simp [h1])]
        rw [e]
        show _ = _ :: ks.filterMap (stepS h room beat)
        rw [← ih]
        unfold bsd
        rw [List.filter_cons, if_pos hp, List.map_cons]
      | false =>
        have e : stepS h room beat k = none := by
          unfold stepS
          rw [if_neg (by rw [hp]; simp)]
        rw [e]
        show _ = ks.filterMap (stepS h room beat)
        rw [← ih]
        unfold bsd
        rw [List.filter_cons, if_neg (by rw [hp]; simp)]
theorem side_fm (h : Hs) (room beat : Int) : side h room beat = (List.range h.doors.length).filterMap (stepS h room beat) := by
  unfold side opn
  rw [zip_range, side_fm0]
@[simp] theorem ix_doors {xs : List P2} {k : Nat} (h : k < xs.length) : ixM (ePs xs) (.int (k : Int)) = M.ret (eP (xs.getD k (0, 0))) := ix_tup_ rfl (by simp [h])
theorem side_loop (h : Hs) (room beat : Int) : ∀ (ks : List Nat) (acc : List Int) (x y z : Option SV), (∀ k ∈ ks, k < h.doors.length) → acc.length + ks.length ≤ 100 → ∃ x' y' z', forM (bName 4) (sSeq (sUnp [5, 6] (d2 ixM (d2 ixM (dVar 0) (dC (.int 1))) (dVar 4)))
      (sIf (tAndX (tVal (d2 (inM true) (dTup [(dVar 2), (dVar 4)]) (d2 ixM (dVar 0) (dC (.int 3))))) (tVal (d2 (inM false) (dVar 1) (dTup [(dVar 5), (dVar 6)])))) (sApp 3 (d2 subM (d2 addM (dVar 5) (dVar 6)) (dVar 1))) sNil)) (ks.map fun k : Nat => D.int (k : Int))
      [some (.d (eH h)), some (.d (.int room)), some (.d (.int beat)), some (.ol (acc.map .int)), x, y, z] = M.ret (.nx [some (.d (eH h)), some (.d (.int room)), some (.d (.int beat)), some (.ol ((acc ++ ks.filterMap (stepS h room beat)).map .int)), x', y', z'])
  | [], acc, x, y, z, _, _ => ⟨x, y, z, by simp⟩
  | k :: ks, acc, x, y, z, hk, hl => by
    rw [List.length_cons] at hl
    rw [List.map_cons, List.filterMap_cons]
    have lt := hk k List.mem_cons_self
    have di := ix_doors (xs := h.doors) lt
    generalize hp : h.doors.getD k (0, 0) = p at di
    cases hs : stepS h room beat k with
    | some v =>
      obtain ⟨x', y', z', e⟩ := side_loop h room beat ks (acc ++ [v]) (some (.d (.int (k : Int)))) (some (.d (.int p.1))) (some (.d (.int p.2))) (fun k hk' => hk k (List.mem_cons_of_mem _ hk')) (by simp; omega)
      refine ⟨x', y', z', ?_⟩
      unfold stepS at hs
      rw [hp] at hs
      dsimp only at hs
      have hv : ((beat, (k : Int)) ∉ h.shut) ∧ (p.1 = room ∨ p.2 = room) ∧ p.1 + p.2 - room = v := by
        split at hs
        · rename_i c
          simp at c
          cases hs
          exact ⟨c.1, c.2, rfl⟩
        · cases hs
      obtain ⟨h1, h2, h3⟩ := hv
      have h2' : (p.1 == room || p.2 == room) = true := by simpa using h2
      rw [forM_cons _ _ _ _ _ _ [some (.d (eH h)), some (.d (.int room)), some (.d (.int beat)), some (.ol ((acc ++ [v]).map .int)), some (.d (.int (k : Int))), some (.d (.int p.1)), some (.d (.int p.2))] rfl (by
        simp [di, eP, h1, h2']
        rw [app_ret 3 _ _ (acc.map .int) (.int v) rfl (by simp [h3]) (by simp; omega)]
        simp)]
      rw [e]
      simp
    | none =>
      obtain ⟨x', y', z', e⟩ := side_loop h room beat ks acc (some (.d (.int (k : Int)))) (some (.d (.int p.1))) (some (.d (.int p.2))) (fun k hk' => hk k (List.mem_cons_of_mem _ hk')) (by omega)
      refine ⟨x', y', z', ?_⟩
      unfold stepS at hs
      rw [hp] at hs
      dsimp only at hs
      have hv : ((beat, (k : Int)) ∈ h.shut) ∨ ((p.1 == room || p.2 == room) = false) := by
        split at hs
        · cases hs
        · rename_i c
          by_cases h1 : (beat, (k : Int)) ∈ h.shut
          · exact .inl h1
          · refine .inr ?_
            cases q : (p.1 == room || p.2 == room) with
            | false => rfl
            | true => exact absurd (by simp [h1]; simpa using q) c
      rw [forM_cons _ _ _ _ _ _ [some (.d (eH h)), some (.d (.int room)), some (.d (.int beat)), some (.ol (acc.map .int)), some (.d (.int (k : Int))), some (.d (.int p.1)), some (.d (.int p.2))] rfl (by
        rcases hv with h1 | h1
        · simp [di, eP, h1]
        · by_cases h2 : (beat, (k : Int)) ∈ h.shut <;> simp [di, eP, h1, h2])]
      rw [e]
theorem law_side_ok {h : Hs} (k : HOk h) (room beat : Int) : WP.F__law_side [eH h, .int room, .int beat] = M.ret (.lst ((side h room beat).map .int)) := by
  have hl := k.d.len
  have r1 := rng1_ret (j := (h.doors.length : Int)) (by omega) (by omega)
  simp only [WP.F__law_side, runB_ap, WP.b__law_side]
  simp [r1]
  obtain ⟨x', y', z', e⟩ := side_loop h room beat (List.range h.doors.length) [] none none none (fun k hk => List.mem_range.mp hk) (by simp; omega)
  simp only [List.map_nil, List.nil_append] at e
  rw [e]
  simp [side_fm]
theorem law_so_ok {h : Hs} (hk : HOk h) {m : Int} {st : List Int} {c : Cm} (sk : StOk h m st) (hm : m ≤ 4) (k : CmOk h m c) : WP.F__law_so [eH h, eS st, eC c] = M.ret (.bl (holdsB h st c)) := by
  obtain ⟨w1, w2, b1, b2, x⟩ := k
  obtain ⟨w, who, beat, what⟩ := c
  simp only at w1 w2 b1 b2 x
  have sl := sk.len
  have l1 := ix_stand (st := st) w1 (by omega)
  simp only [WP.F__law_so, runB_ap, WP.b__law_so]
  cases w
  case here => simp [eC, Wd.s, wh, l1, holdsB]
  case no => simp [eC, Wd.s, wh, l1, holdsB]
  case saw =>
    have l2 := ix_stand (st := st) (i := what) x.1 (by omega)
    simp [eC, Wd.s, wh, l1, l2, holdsB]
    by_cases hq : at_ st what = at_ st who
    · simp [hq]
    · have h2 : (at_ st what == at_ st who) = false := beq_eq_false_iff_ne.mpr hq
      simp [hq, h2]
  case missed =>
    have l2 := ix_stand (st := st) (i := what) x.1 (by omega)
    simp [eC, Wd.s, wh, l1, l2, holdsB]
  case alone =>
    have r1 := rng1_ret (j := (st.length : Int)) (by omega) (by omega)
    simp [eC, Wd.s, wh, l1, r1]
    rw [others_lc (st := st) (who := who) (by rfl) (by rfl) (by simp)]
    simp [in_ints, holdsB]
  case heard =>
    have r1 := rng1_ret (j := (st.length : Int)) (by omega) (by omega)
    simp [eC, Wd.s, wh, l1, r1]
    rw [others_lc (st := st) (who := who) (by rfl) (by rfl) (by simp)]
    simp [law_side_ok hk]
    rw [lcM_pure D.int (fun x => decide (x ∈ others st who)) D.int _ fun r hr => ⟨_, rfl, by simp [in_ints], by simp⟩]
    simp
    have e : ∀ ys : List Int, neM (.lst (ys.map D.int)) (.lst []) = M.ret (.bl (!ys.isEmpty)) := fun ys => by
      cases ys with
      | nil => rfl
      | cons y ys => rw [ne_ret (by simp [ok_ints]) rfl]; rfl
    rw [e]
    simp only [ret_bind, end_rt, holdsB]
    have e2 : ∀ zs : List Int, (!(zs.filter fun x => decide (x ∈ others st who)).isEmpty) = (zs.any fun x => decide (x ∈ others st who)) := fun zs => by
      cases q : zs.any fun x => decide (x ∈ others st who) with
      | true =>
        obtain ⟨y, hy, hy2⟩ := List.any_eq_true.mp q
        have : y ∈ zs.filter fun x => decide (x ∈ others st who) := List.mem_filter.mpr ⟨hy, hy2⟩
        cases q2 : zs.filter fun x => decide (x ∈ others st who) with
        | nil => rw [q2] at this; cases this
        | cons _ _ => rfl
      | false =>
        have : zs.filter (fun x => decide (x ∈ others st who)) = [] := List.filter_eq_nil_iff.mpr fun y hy z => List.any_eq_false.mp q y hy z
        rw [this]; rfl
    rw [e2]
end WW
set_option maxHeartbeats 4000000
namespace WW
open PySem PySem.Spec L2
/-- the store in a law without desks -/
def Vt (T : List Cell) : Prop := ∃ ns k, T = [.town ns k] ∧ ns ≠ []
/-- it ends well, and so -/
def Ok {α : Type} (x : M α) (P : α → Prop) : Prop := ∀ T, Vt T → ∃ a T', x T = .ok a T' ∧ Vt T' ∧ P a
section
variable {α β : Type} {P Q : α → Prop} {R : β → Prop} {x : M α} {f : α → M β}
theorem Ok.ret {a : α} (h : P a) : Ok (M.ret a) P := fun T v => ⟨a, T, rfl, v, h⟩
theorem Ok.bind (h : Ok x P) (hf : ∀ a, P a → Ok (f a) R) : Ok (x >>= f) R := fun T v => by
  obtain ⟨a, T1, h1, v1, p⟩ := h T v
  obtain ⟨b, T2, h2, v2, q⟩ := hf a p T1 v1
  exact ⟨b, T2, by rw [bnd_ok h1]; exact h2, v2, q⟩
theorem Ok.mono (h : Ok x P) (i : ∀ a, P a → Q a) : Ok x Q := fun T v => by
  obtain ⟨a, T1, h1, v1, p⟩ := h T v
  exact ⟨a, T1, h1, v1, i a p⟩
theorem Ok.noX (h : Ok x P) : Ok (WW.noX x) P := fun T v => by
  obtain ⟨a, T1, h1, v1, p⟩ := h T v
  exact ⟨a, T1, by unfold WW.noX; rw [h1], v1, p⟩
theorem Ok.draw {n : Int} (h : 0 < n) (h2 : n < 1073741824) : Ok (drawM [.cell 0, .int n]) fun d => ∃ r, d = .int r ∧ 0 ≤ r ∧ r < n := fun T v => by
  obtain ⟨ns, k, rfl, hne⟩ := v
  have lp : (0 : Int) < (ns.length : Int) := by cases ns with | nil => exact absurd rfl hne | cons _ _ => simp
  have lt : ((k + 1) % (ns.length : Int)).toNat < ns.length := by
    have a1 := Int.emod_nonneg (k + 1) (show (ns.length : Int) ≠ 0 by omega)
    have a2 := Int.emod_lt_of_pos (k + 1) lp
    omega
  have key : ∃ r ns', drawStep ns k n = some (r, ns') ∧ ns' ≠ [] ∧ 0 ≤ r ∧ r < n := by
    unfold drawStep
    simp only [List.getElem?_eq_getElem lt]
    split
    · refine ⟨_, _, rfl, ?_, Int.emod_nonneg _ (by omega), Int.emod_lt_of_pos _ h⟩
      intro z
      have := congrArg List.length z
      rw [List.length_set] at this
      simp at this
      exact hne this
    · exact ⟨_, _, rfl, hne, Int.emod_nonneg _ (by omega), Int.emod_lt_of_pos _ h⟩
  obtain ⟨r, ns', h3, h4, h5, h6⟩ := key
  refine ⟨.int r, [.town ns' (k + 1)], ?_, ⟨ns', k + 1, rfl, h4⟩, r, rfl, h5, h6⟩
  show (if 0 < n ∧ n < 1073741824 then (match drawStep ns k n with | some (r, ns') => Rs.ok (D.int r) ([Cell.town ns k].set 0 (.town ns' (k + 1))) | none => .bad) else .bad) = _
  rw [if_pos ⟨h, h2⟩, h3]
  rfl
end
/-- ys belong to some of the zs -/
inductive Some2 {ι : Type} (p : ι → D → Prop) : List ι → List D → Prop
  | nil : Some2 p [] []
  | skip {z zs ys} : Some2 p zs ys → Some2 p (z :: zs) ys
  | take {z zs y ys} : p z y → Some2 p zs ys → Some2 p (z :: zs) (y :: ys)
theorem Ok.lc {ι : Type} {ρ0 : En} {b : Bd} {t : Tx} {el : Ex} (enc : ι → D) (p : ι → D → Prop) : ∀ (xs : List ι), (∀ x ∈ xs, ∃ ρ, b (enc x) ρ0 = some ρ ∧ Ok (t ρ) (fun _ => True) ∧ Ok (el ρ) (p x)) → Ok (lcM ρ0 b t el (xs.map enc)) (Some2 p xs)
  | [], _ => Ok.ret .nil
  | x :: xs, h => by
    obtain ⟨ρ, h1, h2, h3⟩ := h x List.mem_cons_self
    have ih := Ok.lc (ρ0 := ρ0) (b := b) (t := t) (el := el) enc p xs fun y hy => h y (List.mem_cons_of_mem _ hy)
    rw [List.map_cons]
    unfold lcM
    rw [h1]
    refine Ok.bind h2 fun z _ => ?_
    cases z with
    | true => exact Ok.bind h3 fun y hy => Ok.bind ih fun ys hys => Ok.ret (.take hy hys)
    | false => exact ih.mono fun ys hys => .skip hys
/-- all of them -/
inductive All2 {ι : Type} (p : ι → D → Prop) : List ι → List D → Prop
  | nil : All2 p [] []
  | take {z zs y ys} : p z y → All2 p zs ys → All2 p (z :: zs) (y :: ys)
theorem Ok.lcA {ι : Type} {ρ0 : En} {b : Bd} {el : Ex} (enc : ι → D) (p : ι → D → Prop) : ∀ (xs : List ι), (∀ x ∈ xs, ∃ ρ, b (enc x) ρ0 = some ρ ∧ Ok (el ρ) (p x)) → Ok (lcM ρ0 b tAll el (xs.map enc)) (All2 p xs)
  | [], _ => Ok.ret .nil
  | x :: xs, h => by
    obtain ⟨ρ, h1, h3⟩ := h x List.mem_cons_self
    have ih := Ok.lcA (ρ0 := ρ0) (b := b) (el := el) enc p xs fun y hy => h y (List.mem_cons_of_mem _ hy)
    rw [List.map_cons]
    unfold lcM
    rw [h1]
    simp only [ap_all, ret_bind, if_true]
    exact Ok.bind h3 fun y hy => Ok.bind ih fun ys hys => Ok.ret (.take hy hys)
theorem forM_step (b : Bd) (body : Sx) (x : D) (xs : List D) (ρ ρ1 : En) (h1 : b x ρ = some ρ1) : forM b body (x :: xs) ρ = (body ρ1 >>= fun fl => match fl with | .nx ρ2 => forM b body xs ρ2 | .ct ρ2 => forM b body xs ρ2 | .bk ρ2 => M.ret (.nx ρ2) | .rt d => M.ret (.rt d)) := by
  show (match b x ρ with | none => M.fail | some ρ1 => body ρ1 >>= fun fl => match fl with | .nx ρ2 => forM b body xs ρ2 | .ct ρ2 => forM b body xs ρ2 | .bk ρ2 => M.ret (.nx ρ2) | .rt d => M.ret (.rt d)) = _
  rw [h1]
theorem Ok.for {ι : Type} {b : Bd} {body : Sx} (enc : ι → D) (I : Nat → En → Prop) : ∀ (xs : List ι) (j : Nat) (ρ : En), (∀ i x ρ, xs[i]? = some x → I (j + i) ρ → ∃ ρ1, b (enc x) ρ = some ρ1 ∧ Ok (body ρ1) (fun fl => ∃ ρ2, fl = .nx ρ2 ∧ I (j + i + 1) ρ2)) → I j ρ →
    Ok (forM b body (xs.map enc) ρ) (fun fl => ∃ ρ2, fl = .nx ρ2 ∧ I (j + xs.length) ρ2)
  | [], j, ρ, _, h0 => Ok.ret ⟨ρ, rfl, by simpa using h0⟩
  | x :: xs, j, ρ, h, h0 => by
    obtain ⟨ρ1, h1, h2⟩ := h 0 x ρ rfl (by simpa using h0)
    rw [List.map_cons, forM_step _ _ _ _ _ _ h1]
    refine Ok.bind h2 fun fl ⟨ρ2, e, h3⟩ => ?_
    subst e
    have ih := Ok.for (b := b) (body := body) enc I xs (j + 1) ρ2 (fun i y ρ hy hi => by
      have q := h (i + 1) y ρ (by simpa using hy) (by rw [show j + (i + 1) = j + 1 + i by omega]; exact hi)
      rw [show j + (i + 1) + 1 = j + 1 + i + 1 by omega] at q
      exact q) (by simpa using h3)
    rw [show j + (x :: xs).length = j + 1 + xs.length by simp; omega]
    exact ih
def psort (ps : List P2) : List P2 := (tsort (ps.map fun p => [p.1, p.2])).map fun l => (l.getD 0 0, l.getD 1 0)
theorem tups_eP : ∀ ps : List P2, tupsOf (ps.map eP) = some (ps.map fun p => [p.1, p.2])
  | [] => rfl
  | p :: ps => by
    show (match intsOf [.int p.1, .int p.2], tupsOf (ps.map eP) with | some ns, some t => some (ns :: t) | _, _ => none) = _
    rw [tups_eP ps]
    rfl
theorem psort_map (ps : List P2) : (psort ps).map (fun p => [p.1, p.2]) = tsort (ps.map fun p => [p.1, p.2]) := by
  unfold psort
  rw [List.map_map]
  have h : ∀ l ∈ tsort (ps.map fun p => [p.1, p.2]), ((fun p : P2 => [p.1, p.2]) ∘ fun l : List Int => (l.getD 0 0, l.getD 1 0)) l = l := fun l hl => by
    have := (tsort_perm _).mem_iff.mp hl
    obtain ⟨p, _, rfl⟩ := List.mem_map.mp this
    rfl
  exact (List.map_congr_left h).trans (List.map_id _)
theorem psort_perm (ps : List P2) : (psort ps).Perm ps := by
  have h := (tsort_perm (ps.map fun p : P2 => [p.1, p.2])).map (fun l : List Int => (l.getD 0 0, l.getD 1 0))
  rw [List.map_map] at h
  have e : ((fun l : List Int => (l.getD 0 0, l.getD 1 0)) ∘ fun p : P2 => [p.1, p.2]) = id := by funext p; rfl
  rw [e, List.map_id] at h
  exact h
theorem sort_pairs (ps : List P2) : sortA (.lst (ps.map eP)) = M.ret ((psort ps).map eP) := by
  cases ps with
  | nil => simp [psort, tsort, sortA, sortM, intsOf, isort]
  | cons p ps =>
    show (match intsOf ((p :: ps).map eP) with | some ns => M.ret ((isort ns).map D.int) | none => (match tupsOf ((p :: ps).map eP) with | some t => if 2 ≤ t.length → ∀ ns ∈ t, ns ≠ [] then M.ret ((tsort t).map tupI) else M.fail | none => M.fail)) = _
    rw [tups_eP]
    show (if _ then _ else _) = _
    rw [if_pos (fun _ ns hns => by obtain ⟨q, _, rfl⟩ := List.mem_map.mp hns; simp)]
    rw [← psort_map, List.map_map]
    rfl
theorem ltP_lex (p q : P2) : ltP p q = HT.lexLt [p.1, p.2] [q.1, q.2] := by
  simp only [HT.lexLt, ltP]
  by_cases h1 : p.1 = q.1
  · simp [h1]; omega
  · simp [h1]
theorem psort_inc {ps : List P2} (h : ps.Nodup) : (psort ps).Pairwise fun p q => ltP p q = true := by
  have h1 : (psort ps).Pairwise fun p q => lexLe [p.1, p.2] [q.1, q.2] = true := by
    have := tsort_sorted (ps.map fun p => [p.1, p.2])
    rw [← psort_map, List.pairwise_map] at this
    exact this
  have h2 : (psort ps).Nodup := (psort_perm ps).nodup_iff.mpr h
  refine (h1.and h2).imp fun {p q} ⟨a, b⟩ => ?_
  rw [ltP_lex]
  cases e : HT.lexLt [p.1, p.2] [q.1, q.2] with
  | true => rfl
  | false =>
    have e2 : lexLe [q.1, q.2] [p.1, p.2] = true := by unfold lexLe; rw [e]; rfl
    have e3 := lexLe_anti a e2
    simp at e3
    exact absurd (Prod.ext e3.1 e3.2) b
end WW
set_option maxHeartbeats 4000000
namespace WW
open PySem PySem.Spec L2
theorem some2_pairs {f : Nat → P2} {n : Nat} {ys : List D} (h : Some2 (fun k d => d = eP (f k)) (List.range n) ys) : ∃ zs : List Nat, zs.Sublist (List.range n) ∧ ys = (zs.map f).map eP := by
  generalize List.range n = xs at h
  induction h with
  | nil => exact ⟨[], .slnil, rfl⟩
  | skip _ ih =>
    obtain ⟨zs, h1, h2⟩ := ih
    exact ⟨zs, h1.cons _, h2⟩
  | take hp _ ih =>
    obtain ⟨zs, h1, h2⟩ := ih
    exact ⟨_ :: zs, h1.cons₂ _, by rw [h2, hp]; rfl⟩
theorem range_inc (n : Nat) : (List.range n).Pairwise (· < ·) := List.pairwise_lt_range
theorem add_pairs (a b : List P2) (h : a.length + b.length ≤ 1000) : addM (.lst (a.map eP)) (.lst (b.map eP)) = M.ret (.lst ((a ++ b).map eP)) := by
  have e : a.length + b.length ≤ sizeLine := szn h
  simp [addM, e]
/-- the pairs that lie in beats before i, for n things -/
structure Marks (xs : List P2) (i : Nat) (n : Int) : Prop where
  rng : ∀ p ∈ xs, 0 ≤ p.1 ∧ p.1 < i ∧ 0 ≤ p.2 ∧ p.2 < n
  inc : xs.Pairwise fun p q => ltP p q = true
  len : xs.length ≤ i * 6
theorem Marks.nil (n : Int) : Marks [] 0 n := ⟨fun p h => absurd h (by simp), .nil, Nat.le_refl _⟩
theorem Marks.step {xs : List P2} {i : Nat} {n : Nat} (h : Marks xs i n) (hn : n ≤ 6) {zs : List Nat} (hz : zs.Sublist (List.range n)) : Marks (xs ++ zs.map fun (k : Nat) => ((i : Int), (k : Int))) (i + 1) n := by
  refine ⟨fun p hp => ?_, ?_, ?_⟩
  · rcases List.mem_append.mp hp with hp | hp
    · obtain ⟨a, b, c, d⟩ := h.rng p hp
      exact ⟨a, by omega, c, d⟩
    · obtain ⟨k, hk, rfl⟩ := List.mem_map.mp hp
      have := List.mem_range.mp (hz.subset hk)
      exact ⟨by show (0 : Int) ≤ i; omega, by show (i : Int) < ((i + 1 : Nat) : Int); omega, by show (0 : Int) ≤ k; omega, by show (k : Int) < n; omega⟩
  · refine List.pairwise_append.mpr ⟨h.inc, ?_, fun p hp q hq => ?_⟩
    · rw [List.pairwise_map]
      exact ((range_inc n).sublist hz).imp fun {a b} hab => by simp [ltP]; omega
    · obtain ⟨k, hk, rfl⟩ := List.mem_map.mp hq
      obtain ⟨a, b, c, d⟩ := h.rng p hp
      unfold ltP
      exact decide_eq_true (.inl b)
  · rw [List.length_append, List.length_map]
    have h1 := h.len
    have h2 := hz.length_le
    rw [List.length_range] at h2
    have : (i + 1) * 6 = i * 6 + 6 := by omega
    omega
theorem Marks.pairs {xs : List P2} {i : Nat} {n m : Int} (h : Marks xs i n) (hm : m = i) (hi : i ≤ 13) : PairsOk xs m n := ⟨by rw [hm]; exact h.rng, h.inc, by have := h.len; omega⟩
structure DoorsOk (ps : List P2) (R : Int) : Prop where
  nd : ps.Nodup
  rng : ∀ p ∈ ps, 0 ≤ p.1 ∧ p.1 < p.2 ∧ p.2 < R
  len : ps.length ≤ 6
theorem chain_doors {R : Int} (r1 : 1 ≤ R) (r2 : R ≤ 6) {zs : List Nat} (hz : zs.Sublist (List.range (R - 1).toNat)) : DoorsOk (zs.map fun k : Nat => ((k : Int), (k : Int) + 1)) R ∧ zs.length ≤ 5 ∧ ∀ p ∈ (zs.map fun k : Nat => ((k : Int), (k : Int) + 1)), p.2 = p.1 + 1 := by
  have hl := hz.length_le
  rw [List.length_range] at hl
  refine ⟨⟨?_, fun p hp => ?_, by rw [List.length_map]; omega⟩, by omega, fun p hp => ?_⟩
  · have : zs.Pairwise (· < ·) := (range_inc _).sublist hz
    unfold List.Nodup
    rw [List.pairwise_map]
    exact this.imp fun {a b} hab => by simp; omega
  · obtain ⟨k, hk, rfl⟩ := List.mem_map.mp hp
    have := List.mem_range.mp (hz.subset hk)
    exact ⟨by show (0 : Int) ≤ k; omega, by show (k : Int) < k + 1; omega, by show (k : Int) + 1 < R; omega⟩
  · obtain ⟨k, hk, rfl⟩ := List.mem_map.mp hp
    rfl
theorem DoorsOk.pairs {ps : List P2} {R : Int} (h : DoorsOk ps R) : PairsOk (psort ps) R R ∧ (∀ p ∈ psort ps, p.1 < p.2) ∧ (psort ps).length ≤ 6 := by
  have pm := psort_perm ps
  refine ⟨⟨fun p hp => ?_, psort_inc h.nd, by rw [pm.length_eq]; have := h.len; omega⟩, fun p hp => (h.rng p (pm.mem_iff.mp hp)).2.1, by rw [pm.length_eq]; exact h.len⟩
  obtain ⟨a, b, d⟩ := h.rng p (pm.mem_iff.mp hp)
  exact ⟨a, by omega, by omega, d⟩
theorem law_house_ok {R L : Int} (r1 : 1 ≤ R) (r2 : R ≤ 6) (l1 : 0 ≤ L) (l2 : L ≤ 12) : Ok (WP.F__law_house [.cell 0, .int R, .int L]) fun d => ∃ h, d = eH h ∧ HOk h ∧ h.rooms = R ∧ h.last = L := by
  simp only [WP.F__law_house, runB_ap, WP.b__law_house]
  simp
  rw [rng1_ret (by omega) (by omega)]
  simp only [ret_bind]
  refine Ok.bind (Ok.noX (Ok.lc (fun k : Nat => D.int (k : Int)) (fun k d => d = eP ((k : Int), (k : Int) + 1)) _ fun k hk => ⟨_, rfl, ?_, ?_⟩)) fun ys hys => ?_
  · simp
    exact Ok.bind (Ok.draw (by omega) (by omega)) fun d ⟨r, e, _, _⟩ => by subst e; exact Ok.ret trivial
  · simp
    exact Ok.ret rfl
  obtain ⟨zs, hz, rfl⟩ := some2_pairs hys
  obtain ⟨dk, zl, d1⟩ := chain_doors r1 r2 hz
  have pl : (zs.map fun k : Nat => ((k : Int), (k : Int) + 1)).length ≤ 5 := by rw [List.length_map]; exact zl
  generalize (zs.map fun k : Nat => ((k : Int), (k : Int) + 1)) = ps at dk d1 hys pl ⊢
  clear hys
  refine Ok.bind (P := fun x => x = true → 2 < R) ?_ fun x hx => ?_
  · by_cases h : 2 < R
    · rw [if_pos h]
      exact Ok.bind (Ok.draw (by omega) (by omega)) fun d ⟨r, e, _, _⟩ => by subst e; exact Ok.ret fun _ => h
    · rw [if_neg h]
      exact Ok.ret fun z => by cases z
  refine Ok.bind (P := fun fl => ∃ qs s3, fl = .nx [some (.d (.cell 0)), some (.d (.int R)), some (.d (.int L)), some s3, none, none, none, none] ∧ (s3 = .ol (qs.map eP) ∨ s3 = .d (.lst (qs.map eP))) ∧ DoorsOk qs R) ?_ fun fl hfl => ?_
  · cases x with
    | false => exact Ok.ret ⟨ps, _, rfl, .inl rfl, dk⟩
    | true =>
      have h2 := hx rfl
      rw [if_pos rfl]
      have e : addM (.lst [.tup [.int 0, .int (R - 1)]]) (.lst (ps.map eP)) = M.ret (.lst (((0, R - 1) :: ps).map eP)) := by
        have q := add_pairs [(0, R - 1)] ps (by simp; omega)
        exact q
      rw [e]
      refine Ok.ret ⟨(0, R - 1) :: ps, _, rfl, .inr rfl, ?_, fun p hp => ?_, by simp; omega⟩
      · refine List.nodup_cons.mpr ⟨fun z => ?_, dk.nd⟩
        have := d1 _ z
        simp at this
        omega
      · rcases List.mem_cons.mp hp with rfl | hp
        · exact ⟨by show (0 : Int) ≤ 0; omega, by show (0 : Int) < R - 1; omega, by show R - 1 < R; omega⟩
        · exact dk.rng p hp
  clear hx dk d1 pl x
  obtain ⟨qs, s3, rfl, hs3, dq⟩ := hfl
  obtain ⟨pk, plt, pl6⟩ := dq.pairs
  generalize hds : psort qs = ds at pk plt pl6 ⊢
  have s1 : (sFrz 3 (sSet 3 (dOwn (oCall (F1 sortA) [dVar 3])))) [some (.d (.cell 0)), some (.d (.int R)), some (.d (.int L)), some s3, none, none, none, none] = M.ret (.nx [some (.d (.cell 0)), some (.d (.int R)), some (.d (.int L)), some (.d (.lst (ds.map eP))), none, none, none, none]) := by
    rcases hs3 with rfl | rfl <;> simp [sort_pairs, hds]
  simp only [onNx_nx]
  rw [ap_sSeq, s1]
  simp only [ret_bind, onNx_nx]
  simp
  rw [rng1_ret (by omega) (by omega)]
  simp only [ret_bind]
  have rk : ∀ {i k : Nat}, (List.range (L + 1).toNat)[i]? = some k → k = i ∧ i < 13 := fun {i k} h => by
    obtain ⟨lt, e⟩ := List.getElem?_eq_some_iff.mp h
    rw [List.getElem_range] at e
    rw [List.length_range] at lt
    exact ⟨e.symm, by omega⟩
  obtain ⟨I, hI⟩ : ∃ I : Nat → En → Prop, ∀ i ρ, I i ρ ↔ ∃ s3 xs x5, ρ = [some (.d (.cell 0)), some (.d (.int R)), some (.d (.int L)), some s3, some (.d (.lst (xs.map eP))), x5, none, none] ∧ s3 = .d (.lst (ds.map eP)) ∧ Marks xs i ds.length := ⟨_, fun _ _ => Iff.rfl⟩
  refine Ok.bind (Ok.for (fun k : Nat => D.int (k : Int)) I _ 0 _ (fun i k ρ hk hi => ?_) ((hI _ _).mpr ⟨_, [], _, rfl, rfl, Marks.nil _⟩)) fun fl hfl => ?_
  · obtain ⟨rfl, hi13⟩ := rk hk
    obtain ⟨s3, xs, x5, rfl, rfl, mk⟩ := (hI _ _).mp hi
    rw [Nat.zero_add] at mk ⊢
    refine ⟨_, rfl, ?_⟩
    have lx := mk.len
    simp
    rw [rng1_ret (by omega) (by omega)]
    simp only [ret_bind]
    refine Ok.bind (Ok.noX (Ok.lc (fun k : Nat => D.int (k : Int)) (fun j d => d = eP ((k : Int), (j : Int))) _ fun j hj => ⟨_, rfl, ?_, ?_⟩)) fun ys hys => ?_
    · simp
      exact Ok.bind (Ok.draw (by omega) (by omega)) fun d ⟨r, e, _, _⟩ => by subst e; exact Ok.ret trivial
    · simp
      exact Ok.ret rfl
    obtain ⟨zs, hz, rfl⟩ := some2_pairs hys
    have hz' : zs.Sublist (List.range ds.length) := by simpa using hz
    have zl := hz'.length_le
    rw [List.length_range] at zl
    rw [add_pairs _ _ (by simp; omega)]
    simp only [ret_bind]
    exact Ok.ret ⟨_, rfl, (hI _ _).mpr ⟨_, _, _, rfl, rfl, mk.step (by omega) hz'⟩⟩
  obtain ⟨ρ, rfl, hr⟩ := hfl
  obtain ⟨s3', shut, x5, rfl, rfl, mk⟩ := (hI _ _).mp hr
  clear hr hI I
  rw [List.length_range, Nat.zero_add] at mk
  simp
  rw [rng1_ret (by omega) (by omega)]
  simp only [ret_bind]
  obtain ⟨I, hI⟩ : ∃ I : Nat → En → Prop, ∀ i ρ, I i ρ ↔ ∃ xs x5, ρ = [some (.d (.cell 0)), some (.d (.int R)), some (.d (.int L)), some (.d (.lst (ds.map eP))), some (.d (.lst (shut.map eP))), x5, some (.d (.lst (xs.map eP))), none] ∧ Marks xs i R.toNat := ⟨_, fun _ _ => Iff.rfl⟩
  refine Ok.bind (Ok.for (fun k : Nat => D.int (k : Int)) I _ 0 _ (fun i k ρ hk hi => ?_) ((hI _ _).mpr ⟨[], _, rfl, Marks.nil _⟩)) fun fl hfl => ?_
  · obtain ⟨rfl, hi13⟩ := rk hk
    obtain ⟨xs, x5, rfl, mk⟩ := (hI _ _).mp hi
    rw [Nat.zero_add] at mk ⊢
    refine ⟨_, rfl, ?_⟩
    have lx := mk.len
    simp
    rw [rng1_ret (by omega) (by omega)]
    simp only [ret_bind]
    refine Ok.bind (Ok.noX (Ok.lc (fun k : Nat => D.int (k : Int)) (fun j d => d = eP ((k : Int), (j : Int))) _ fun j hj => ⟨_, rfl, ?_, ?_⟩)) fun ys hys => ?_
    · simp
      exact Ok.bind (Ok.draw (by omega) (by omega)) fun d ⟨r, e, _, _⟩ => by subst e; exact Ok.ret trivial
    · simp
      exact Ok.ret rfl
    obtain ⟨zs, hz, rfl⟩ := some2_pairs hys
    have zl := hz.length_le
    rw [List.length_range] at zl
    rw [add_pairs _ _ (by simp; omega)]
    simp only [ret_bind]
    exact Ok.ret ⟨_, rfl, (hI _ _).mpr ⟨_, _, rfl, mk.step (by omega) hz⟩⟩
  obtain ⟨ρ, rfl, hr⟩ := hfl
  obtain ⟨dark, x5, rfl, mk2⟩ := (hI _ _).mp hr
  rw [List.length_range, Nat.zero_add] at mk2
  have fin : Ok (M.ret (.tup [.int R, ePs ds, .int L, ePs shut, ePs dark])) fun d => ∃ h, d = eH h ∧ HOk h ∧ h.rooms = R ∧ h.last = L := by
    refine Ok.ret ⟨⟨R, ds, L, shut, dark⟩, rfl, ⟨r1, r2, l1, l2, pk, plt, mk.pairs (by show L + 1 = _; omega) (by omega), ?_⟩, rfl, rfl⟩
    have e : ((R.toNat : Nat) : Int) = R := by omega
    rw [e] at mk2
    exact mk2.pairs (by show L + 1 = _; omega) (by omega)
  simp
  exact fin
end WW
set_option maxHeartbeats 4000000
namespace WW
open PySem PySem.Spec L2
theorem pick_ok {ι : Type} (enc : ι → D) (xs : List ι) (h0 : xs ≠ []) (hl : xs.length ≤ 1000) : Ok (WP.F__law_pick [.cell 0, .lst (xs.map enc)]) fun d => ∃ x ∈ xs, d = enc x := by
  have lp : 0 < xs.length := by cases xs with | nil => exact absurd rfl h0 | cons _ _ => simp
  simp only [WP.F__law_pick, runB_ap, WP.b__law_pick]
  simp
  refine Ok.bind (Ok.draw (by omega) (by omega)) fun d ⟨r, e, r1, r2⟩ => ?_
  subst e
  have lt : r.toNat < xs.length := by omega
  rw [ix_lst_ (ds := xs.map enc) (k := r.toNat) (d := enc xs[r.toNat]) (by omega) (by simp [lt])]
  exact Ok.ret ⟨_, List.getElem_mem lt, rfl⟩
theorem law_claim_ok {h : Hs} (hk : HOk h) {m : Int} (m1 : 1 ≤ m) (m2 : m ≤ 4) : Ok (WP.F__law_claim [.cell 0, eH h, .int m]) fun d => ∃ c, d = eC c ∧ CmOk h m c := by
  have k1 := hk.r1
  have k2 := hk.r2
  have k3 := hk.l1
  have k4 := hk.l2
  obtain ⟨P, hP⟩ : ∃ P : D → Prop, ∀ d, P d ↔ ∃ c, d = eC c ∧ CmOk h m c := ⟨_, fun _ => Iff.rfl⟩
  refine Ok.mono (P := P) ?_ fun d hd => (hP d).mp hd
  have pk := pick_ok (fun w : Wd => D.str w.s) [.here, .no, .saw, .missed, .alone, .heard] (by simp) (by simp)
  simp only [List.map_cons, List.map_nil, Wd.s] at pk
  simp only [WP.F__law_claim, runB_ap, WP.b__law_claim]
  simp
  refine Ok.bind pk fun d ⟨w, _, e⟩ => ?_
  have e' : d = .str w.s := by rw [e]; cases w <;> rfl
  subst e'
  clear e
  refine Ok.bind (Ok.draw (by omega) (by omega)) fun d ⟨who, e, o1, o2⟩ => ?_
  subst e
  refine Ok.bind (Ok.draw (by omega) (by omega)) fun d ⟨beat, e, b1, b2⟩ => ?_
  subst e
  have b3 : beat ≤ h.last := by omega
  have at_room : ∀ w : Wd, (w = .here ∨ w = .no) → Ok (drawM [.cell 0, .int h.rooms] >>= fun x => M.ret (D.tup [.str w.s, .int who, .int beat, x])) P := fun w hw =>
    Ok.bind (Ok.draw (by omega) (by omega)) fun d ⟨r, e, r1, r2⟩ => by
      subst e
      refine Ok.ret ((hP _).mpr ⟨⟨w, who, beat, r⟩, ?_, o1, o2, b1, b3, ?_⟩)
      · rcases hw with rfl | rfl <;> rfl
      · rcases hw with rfl | rfl <;> exact ⟨r1, r2⟩
  have none_ : ∀ w : Wd, (w = .alone ∨ w = .heard) → Ok (M.ret (D.tup [.str w.s, .int who, .int beat, .non])) P := fun w hw => by
    refine Ok.ret ((hP _).mpr ⟨⟨w, who, beat, 0⟩, ?_, o1, o2, b1, b3, ?_⟩)
    · rcases hw with rfl | rfl <;> rfl
    · rcases hw with rfl | rfl <;> trivial
  have two : ∀ w : Wd, (w = .saw ∨ w = .missed) → m ≠ 1 → Ok (WP.F__law_pick [.cell 0, .lst (((List.range m.toNat).filter fun k : Nat => !((k : Int) == who)).map fun k : Nat => D.int (k : Int))] >>= fun x => M.ret (D.tup [.str w.s, .int who, .int beat, x])) P := fun w hw hm => by
    have ne : ((List.range m.toNat).filter fun k : Nat => !((k : Int) == who)) ≠ [] := by
      intro z
      have := List.filter_eq_nil_iff.mp z (if who = 0 then 1 else 0) (List.mem_range.mpr (by split <;> omega))
      simp at this
      split at this <;> omega
    refine Ok.bind (pick_ok (fun k : Nat => D.int (k : Int)) _ ne (Nat.le_trans (List.length_filter_le _ _) (by simp; omega))) fun d ⟨k, hk, e⟩ => ?_
    subst e
    obtain ⟨h1, h2⟩ := List.mem_filter.mp hk
    have h3 := List.mem_range.mp h1
    simp at h2
    refine Ok.ret ((hP _).mpr ⟨⟨w, who, beat, k⟩, ?_, o1, o2, b1, b3, ?_⟩)
    · rcases hw with rfl | rfl <;> rfl
    · rcases hw with rfl | rfl <;> exact ⟨by show (0 : Int) ≤ k; omega, by show (k : Int) < m; omega, h2⟩
  have lc : ∀ {ρ0 : En}, ρ0[4]? = some (some (.d (.int who))) → 6 < ρ0.length → lcM ρ0 (bName 6) (tVal (d2 neM (dVar 6) (dVar 4))) (dVar 6) ((List.range m.toNat).map fun k : Nat => D.int (k : Int)) = M.ret (((List.range m.toNat).filter fun k : Nat => !((k : Int) == who)).map fun k : Nat => D.int (k : Int)) := fun {ρ0} h4 h6 => by
    rw [lcM_pure (fun k : Nat => D.int (k : Int)) (fun k => !((k : Int) == who)) (fun k => .int (k : Int)) (List.range m.toNat) fun k hk => ⟨_, rfl, by simp [List.getElem?_set_self h6, List.getElem?_set_ne, h4], fun _ => by simp [List.getElem?_set_self h6]⟩]
  have r1 := rng1_ret (j := m) (by omega) (by omega)
  cases w
  case here => simp [Wd.s]; exact at_room .here (.inl rfl)
  case no => simp [Wd.s]; exact at_room .no (.inr rfl)
  case alone => 
    simp [Wd.s]
    exact none_ .alone (.inl rfl)
  case heard => 
    simp [Wd.s]
    by_cases hm : m = 1
    · simp [hm]; exact none_ .alone (.inl rfl)
    · simp [hm]; exact none_ .heard (.inr rfl)
  case saw =>
    simp [Wd.s]
    by_cases hm : m = 1
    · simp [hm]; exact none_ .alone (.inl rfl)
    · simp [hm, r1]
      rw [lc (by rfl) (by simp)]
      simp only [noX_ret, ret_bind]
      exact two .saw (.inl rfl) hm
  case missed =>
    simp [Wd.s]
    by_cases hm : m = 1
    · simp [hm]; exact none_ .alone (.inl rfl)
    · simp [hm, r1]
      rw [lc (by rfl) (by simp)]
      simp only [noX_ret, ret_bind]
      exact two .missed (.inr rfl) hm
@[simp] theorem is_bb (neg a b : Bool) : isM neg (.bl a) (.bl b) = M.ret (.bl (xor neg (decide (a = b)))) := (rfl)
theorem eqBs_ints : ∀ xs : List Int, eqBs (xs.map D.int) (xs.map D.int) = true
  | [] => rfl
  | x :: xs => by simp [eqBs_ints xs]
theorem ne_same (xs : List Int) : neM (.lst (xs.map D.int)) (.lst (xs.map D.int)) = M.ret (.bl false) := by rw [ne_ret (by simp [ok_ints]) (by simp [ok_ints]), eqB_ll, eqBs_ints]; rfl
theorem all2_ints {ι : Type} {n : Int} {xs : List ι} {ys : List D} (h : All2 (fun _ d => ∃ r, d = .int r ∧ 0 ≤ r ∧ r < n) xs ys) : ∃ st : List Int, ys = st.map .int ∧ st.length = xs.length ∧ ∀ r ∈ st, 0 ≤ r ∧ r < n := by
  induction h with
  | nil => exact ⟨[], rfl, rfl, fun _ h => absurd h (by simp)⟩
  | take hp _ ih =>
    obtain ⟨st, h1, h2, h3⟩ := ih
    obtain ⟨r, e, r1, r2⟩ := hp
    refine ⟨r :: st, by rw [h1, e]; rfl, by simp [h2], fun q hq => ?_⟩
    rcases List.mem_cons.mp hq with rfl | hq
    · exact ⟨r1, r2⟩
    · exact h3 q hq
/-- a slot that no list of one's own is in -/
def NoOwn (x : Option SV) : Prop := x = none ∨ ∃ d, x = some (.d d)
end WW
set_option maxHeartbeats 4000000
namespace Wk19
open PySem PySem.Spec PyProof.Rows L2 WW
def top (i : Nat) : Stmt := PySem.Challenge.pw_wherewas_k19_wishes_refused.main.body.getD i (.Pass ⟨0, 0, 0, 0⟩)
def d_is_whole : He.DefD := ⟨("is_whole", none), "is_whole", "is_whole", defArgs (top 10), defBody (top 10), defScope (top 10), [], []⟩
def d_are_pairs : He.DefD := ⟨("are_pairs", none), "are_pairs", "are_pairs", defArgs (top 16), defBody (top 16), defScope (top 16), [], []⟩
def d_is_house : He.DefD := ⟨("is_house", none), "is_house", "is_house", defArgs (top 17), defBody (top 17), defScope (top 17), [], []⟩
def d_look_house : He.DefD := ⟨("look_house", none), "look_house", "look_house", defArgs (top 18), defBody (top 18), defScope (top 18), [], []⟩
def d_look_folk : He.DefD := ⟨("look_folk", none), "look_folk", "look_folk", defArgs (top 19), defBody (top 19), defScope (top 19), [], []⟩
def d_open_doors : He.DefD := ⟨("open_doors", none), "open_doors", "open_doors", defArgs (top 20), defBody (top 20), defScope (top 20), [], []⟩
def d_beside : He.DefD := ⟨("beside", none), "beside", "beside", defArgs (top 21), defBody (top 21), defScope (top 21), [], []⟩
def d_stands : He.DefD := ⟨("stands", none), "stands", "stands", defArgs (top 22), defBody (top 22), defScope (top 22), [], []⟩
def d_is_stand : He.DefD := ⟨("is_stand", none), "is_stand", "is_stand", defArgs (top 23), defBody (top 23), defScope (top 23), [], []⟩
def d_is_claim : He.DefD := ⟨("is_claim", none), "is_claim", "is_claim", defArgs (top 24), defBody (top 24), defScope (top 24), [], []⟩
def d_holds : He.DefD := ⟨("holds", none), "holds", "holds", defArgs (top 25), defBody (top 25), defScope (top 25), [], []⟩
def d_is_binding : He.DefD := ⟨("is_binding", none), "is_binding", "is_binding", defArgs (top 28), defBody (top 28), defScope (top 28), [], []⟩
def d_book_fits : He.DefD := ⟨("book_fits", none), "book_fits", "book_fits", defArgs (top 29), defBody (top 29), defScope (top 29), [], []⟩
def d_look_book : He.DefD := ⟨("look_book", none), "look_book", "look_book", defArgs (top 30), defBody (top 30), defScope (top 30), [], []⟩
def d_look_case : He.DefD := ⟨("look_case", none), "look_case", "look_case", defArgs (top 31), defBody (top 31), defScope (top 31), [], []⟩
def d_claims_of : He.DefD := ⟨("claims_of", none), "claims_of", "claims_of", defArgs (top 32), defBody (top 32), defScope (top 32), [], []⟩
def d_let_at : He.DefD := ⟨("let_at", none), "let_at", "let_at", defArgs (top 34), defBody (top 34), defScope (top 34), [], []⟩
def d_led : He.DefD := ⟨("led", none), "led", "led", defArgs (top 35), defBody (top 35), defScope (top 35), [], []⟩
def d_ahead_lots : He.DefD := ⟨("ahead_lots", none), "ahead_lots", "ahead_lots", defArgs (top 36), defBody (top 36), defScope (top 36), [], []⟩
def d_behind_lots : He.DefD := ⟨("behind_lots", none), "behind_lots", "behind_lots", defArgs (top 37), defBody (top 37), defScope (top 37), [], []⟩
def d_met_lots : He.DefD := ⟨("met_lots", none), "met_lots", "met_lots", defArgs (top 38), defBody (top 38), defScope (top 38), [], []⟩
def d_is_step : He.DefD := ⟨("is_step", none), "is_step", "is_step", defArgs (top 39), defBody (top 39), defScope (top 39), [], []⟩
def d_first_of : He.DefD := ⟨("first_of", none), "first_of", "first_of", defArgs (top 40), defBody (top 40), defScope (top 40), [], []⟩
def d_walks : He.DefD := ⟨("walks", none), "walks", "walks", defArgs (top 41), defBody (top 41), defScope (top 41), [], []⟩
def d_broken_by : He.DefD := ⟨("broken_by", none), "broken_by", "broken_by", defArgs (top 42), defBody (top 42), defScope (top 42), [], []⟩
def d_look_wish : He.DefD := ⟨("look_wish", none), "look_wish", "look_wish", defArgs (top 45), defBody (top 45), defScope (top 45), [], []⟩
def d_lots_of : He.DefD := ⟨("lots_of", none), "lots_of", "lots_of", defArgs (top 46), defBody (top 46), defScope (top 46), [], []⟩
def d_bars : He.DefD := ⟨("bars", none), "bars", "bars", defArgs (top 47), defBody (top 47), defScope (top 47), [], []⟩
def d_core_of : He.DefD := ⟨("core_of", none), "core_of", "core_of", defArgs (top 48), defBody (top 48), defScope (top 48), [], []⟩
def d_core : He.DefD := ⟨("core", none), "core", "core", defArgs (top 49), defBody (top 49), defScope (top 49), [], [("liars", .adr (kwAt "core" "liars"))]⟩
def d_meets : He.DefD := ⟨("meets", none), "meets", "meets", defArgs (top 50), defBody (top 50), defScope (top 50), [], []⟩
def d_least_paper : He.DefD := ⟨("least_paper", none), "least_paper", "least_paper", defArgs (top 51), defBody (top 51), defScope (top 51), [], [("liars", .adr (kwAt "least_paper" "liars"))]⟩
def d_shows_least : He.DefD := ⟨("shows_least", none), "shows_least", "shows_least", defArgs (top 52), defBody (top 52), defScope (top 52), [], [("liars", .adr (kwAt "shows_least" "liars"))]⟩
def d_needed : He.DefD := ⟨("needed", none), "needed", "needed", defArgs (top 53), defBody (top 53), defScope (top 53), [], [("liars", .adr (kwAt "needed" "liars"))]⟩
def d_is_question : He.DefD := ⟨("is_question", none), "is_question", "is_question", defArgs (top 55), defBody (top 55), defScope (top 55), [], []⟩
def d_look_question : He.DefD := ⟨("look_question", none), "look_question", "look_question", defArgs (top 56), defBody (top 56), defScope (top 56), [], []⟩
def d_answer_in : He.DefD := ⟨("answer_in", none), "answer_in", "answer_in", defArgs (top 57), defBody (top 57), defScope (top 57), [], []⟩
def d_answers : He.DefD := ⟨("answers", none), "answers", "answers", defArgs (top 58), defBody (top 58), defScope (top 58), [], [("liars", .adr (kwAt "answers" "liars"))]⟩
def d_stands_with : He.DefD := ⟨("stands_with", none), "stands_with", "stands_with", defArgs (top 59), defBody (top 59), defScope (top 59), [], []⟩
def d_settled : He.DefD := ⟨("settled", none), "settled", "settled", defArgs (top 60), defBody (top 60), defScope (top 60), [], []⟩
def d_settles : He.DefD := ⟨("settles", none), "settles", "settles", defArgs (top 61), defBody (top 61), defScope (top 61), [], [("liars", .adr (kwAt "settles" "liars"))]⟩
def d_questions : He.DefD := ⟨("questions", none), "questions", "questions", defArgs (top 62), defBody (top 62), defScope (top 62), [], []⟩
def d_settling : He.DefD := ⟨("settling", none), "settling", "settling", defArgs (top 63), defBody (top 63), defScope (top 63), [], [("liars", .adr (kwAt "settling" "liars"))]⟩
def d_open_still : He.DefD := ⟨("open_still", none), "open_still", "open_still", defArgs (top 64), defBody (top 64), defScope (top 64), [], [("liars", .adr (kwAt "open_still" "liars"))]⟩
def d_story_outside : He.DefD := ⟨("story_outside", none), "story_outside", "story_outside", defArgs (top 66), defBody (top 66), defScope (top 66), [], []⟩
def d_fits_at : He.DefD := ⟨("fits_at", none), "fits_at", "fits_at", defArgs (top 67), defBody (top 67), defScope (top 67), [], []⟩
def d_parting : He.DefD := ⟨("parting", none), "parting", "parting", defArgs (top 68), defBody (top 68), defScope (top 68), [], [("liars", .adr (kwAt "parting" "liars"))]⟩
def d_alike : He.DefD := ⟨("alike", none), "alike", "alike", defArgs (top 69), defBody (top 69), defScope (top 69), [], [("liars", .adr (kwAt "alike" "liars"))]⟩
def d__law_town : He.DefD := ⟨("_law_town", none), "_law_town", "_law_town", defArgs (top 71), defBody (top 71), defScope (top 71), [], []⟩
def d__law_draw : He.DefD := ⟨("_law_draw", none), "_law_draw", "_law_draw", defArgs (top 72), defBody (top 72), defScope (top 72), [], []⟩
def d__law_refusal : He.DefD := ⟨("_law_refusal", none), "_law_refusal", "_law_refusal", defArgs (top 73), defBody (top 73), defScope (top 73), [], []⟩
def d__law_does : He.DefD := ⟨("_law_does", none), "_law_does", "_law_does", defArgs (top 74), defBody (top 74), defScope (top 74), [], []⟩
def d__law_asked : He.DefD := ⟨("_law_asked", none), "_law_asked", "_law_asked", defArgs (top 75), defBody (top 75), defScope (top 75), [], []⟩
def d__law_paper : He.DefD := ⟨("_law_paper", none), "_law_paper", "_law_paper", defArgs (top 76), defBody (top 76), defScope (top 76), [], []⟩
def d__law_papers : He.DefD := ⟨("_law_papers", none), "_law_papers", "_law_papers", defArgs (top 77), defBody (top 77), defScope (top 77), [], []⟩
def d_law : He.DefD := ⟨("law", none), "law", "law", defArgs (top 78), defBody (top 78), defScope (top 78), [], []⟩
def fn : List He.DefD := [d_is_whole, d_are_pairs, d_is_house, d_look_house, d_look_folk, d_open_doors, d_beside, d_stands, d_is_stand, d_is_claim, d_holds, d_is_binding, d_book_fits, d_look_book, d_look_case, d_claims_of, d_let_at, d_led, d_ahead_lots, d_behind_lots, d_met_lots, d_is_step, d_first_of, d_walks, d_broken_by, d_look_wish, d_lots_of, d_bars, d_core_of, d_core, d_meets, d_least_paper, d_shows_least, d_needed, d_is_question, d_look_question, d_answer_in, d_answers, d_stands_with, d_settled, d_settles, d_questions, d_settling, d_open_still, d_story_outside, d_fits_at, d_parting, d_alike, d__law_town, d__law_draw, d__law_refusal, d__law_does, d__law_asked, d__law_paper, d__law_papers, d_law]
def fa : List He.Fa := [.glo "is_whole", .glo "are_pairs", .glo "is_house", .glo "look_house", .glo "look_folk", .glo "open_doors", .glo "beside", .glo "stands", .glo "is_stand", .glo "is_claim", .glo "holds", .glo "is_binding", .glo "book_fits", .glo "look_book", .glo "look_case", .glo "claims_of", .glo "let_at", .glo "led", .glo "ahead_lots", .glo "behind_lots", .glo "met_lots", .glo "is_step", .glo "first_of", .glo "walks", .glo "broken_by", .glo "look_wish", .glo "lots_of", .glo "bars", .glo "core_of", .glo "core", .glo "meets", .glo "least_paper", .glo "shows_least", .glo "needed", .glo "is_question", .glo "look_question", .glo "answer_in", .glo "answers", .glo "stands_with", .glo "settled", .glo "settles", .glo "questions", .glo "settling", .glo "open_still", .glo "story_outside", .glo "fits_at", .glo "parting", .glo "alike", .glo "_law_town", .glo "_law_draw", .glo "_law_refusal", .glo "_law_does", .glo "_law_asked", .glo "_law_paper", .glo "_law_papers", .glo "law", .glo "WhereError", .glo "BadHouse", .glo "BadFolk", .glo "BadBeat", .glo "BadRoom", .glo "BadBook", .glo "BadPaper", .glo "BadText", .glo "NoneSuch", .exc "WhereError", .exc "BadHouse", .exc "BadFolk", .exc "BadBeat", .exc "BadRoom", .exc "BadBook", .exc "BadPaper", .exc "BadText", .exc "NoneSuch", .free "ValueError", .free "all", .free "any", .free "bool", .free "dict", .free "enumerate", .free "int", .free "isinstance", .free "len", .free "list", .free "max", .free "min", .free "range", .free "set", .free "sorted", .free "str", .free "sum", .free "tuple", .free "zip", .int "MOST_ROOMS" 6, .int "MOST_LAST" 12, .int "MOST_FOLK" 4, .int "MOST_BINDINGS" 30, .int "MOST_CORE_BOOK" 12, .glo "WORDS"]
def caOf (K : PySem.W.Frag) : Nat → Addr
  | 0 => He.ga K "WhereError"
  | 1 => He.ga K "BadHouse"
  | 2 => He.ga K "BadFolk"
  | 3 => He.ga K "BadBeat"
  | 4 => He.ga K "BadRoom"
  | 5 => He.ga K "BadBook"
  | 6 => He.ga K "BadPaper"
  | 7 => He.ga K "BadText"
  | 8 => He.ga K "NoneSuch"
  | _ => 0
def ck : List Ck := [fun K => tupAt K (He.ga K "WORDS") [.str "at", .str "not", .str "saw", .str "missed", .str "alone", .str "heard"], fun K => tupAt K (kwAt "core" "liars" K) [], fun K => tupAt K (kwAt "least_paper" "liars" K) [], fun K => tupAt K (kwAt "shows_least" "liars" K) [], fun K => tupAt K (kwAt "needed" "liars" K) [], fun K => tupAt K (kwAt "answers" "liars" K) [], fun K => tupAt K (kwAt "settles" "liars" K) [], fun K => tupAt K (kwAt "settling" "liars" K) [], fun K => tupAt K (kwAt "open_still" "liars" K) [], fun K => tupAt K (kwAt "parting" "liars" K) [], fun K => tupAt K (kwAt "alike" "liars" K) [], fun K => xfB caOf K]
structure Hd (c : Cfg) (mg : Str → Option Value) : Prop where
  sy : SaysZ fa ck fn c.K
  ns : ∃ h : Heap, c.K.In h ∧ h.Ns mainGlobals mg
  ca : c.CA = caOf c.K
section
variable {c : Cfg} {mg : Str → Option Value} {base : Heap}
theorem Hd.g_is_whole (B : Hd c mg) : mg "is_whole" = some (.ref (He.ga c.K "is_whole")) := by obtain ⟨h, k1, k2⟩ := B.ns; exact He.glo_ok k1 k2 (B.sy.d.fact 0 (f := .glo "is_whole") rfl)
theorem Hd.g_are_pairs (B : Hd c mg) : mg "are_pairs" = some (.ref (He.ga c.K "are_pairs")) := by obtain ⟨h, k1, k2⟩ := B.ns; exact He.glo_ok k1 k2 (B.sy.d.fact 1 (f := .glo "are_pairs") rfl)
theorem Hd.g_is_house (B : Hd c mg) : mg "is_house" = some (.ref (He.ga c.K "is_house")) := by obtain ⟨h, k1, k2⟩ := B.ns; exact He.glo_ok k1 k2 (B.sy.d.fact 2 (f := .glo "is_house") rfl)
theorem Hd.g_look_house (B : Hd c mg) : mg "look_house" = some (.ref (He.ga c.K "look_house")) := by obtain ⟨h, k1, k2⟩ := B.ns; exact He.glo_ok k1 k2 (B.sy.d.fact 3 (f := .glo "look_house") rfl)
theorem Hd.g_look_folk (B : Hd c mg) : mg "look_folk" = some (.ref (He.ga c.K "look_folk")) := by obtain ⟨h, k1, k2⟩ := B.ns; exact He.glo_ok k1 k2 (B.sy.d.fact 4 (f := .glo "look_folk") rfl)
theorem Hd.g_open_doors (B : Hd c mg) : mg "open_doors" = some (.ref (He.ga c.K "open_doors")) := by obtain ⟨h, k1, k2⟩ := B.ns; exact He.glo_ok k1 k2 (B.sy.d.fact 5 (f := .glo "open_doors") rfl)
theorem Hd.g_beside (B : Hd c mg) : mg "beside" = some (.ref (He.ga c.K "beside")) := by obtain ⟨h, k1, k2⟩ := B.ns; exact He.glo_ok k1 k2 (B.sy.d.fact 6 (f := .glo "beside") rfl)
theorem Hd.g_stands (B : Hd c mg) : mg "stands" = some (.ref (He.ga c.K "stands")) := by obtain ⟨h, k1, k2⟩ := B.ns; exact He.glo_ok k1 k2 (B.sy.d.fact 7 (f := .glo "stands") rfl)
theorem Hd.g_is_stand (B : Hd c mg) : mg "is_stand" = some (.ref (He.ga c.K "is_stand")) := by obtain ⟨h, k1, k2⟩ := B.ns; exact He.glo_ok k1 k2 (B.sy.d.fact 8 (f := .glo "is_stand") rfl)
theorem Hd.g_is_claim (B : Hd c mg) : mg "is_claim" = some (.ref (He.ga c.K "is_claim")) := by obtain ⟨h, k1, k2⟩ := B.ns; exact He.glo_ok k1 k2 (B.sy.d.fact 9 (f := .glo "is_claim") rfl)
theorem Hd.g_holds (B : Hd c mg) : mg "holds" = some (.ref (He.ga c.K "holds")) := by obtain ⟨h, k1, k2⟩ := B.ns; exact He.glo_ok k1 k2 (B.sy.d.fact 10 (f := .glo "holds") rfl)
theorem Hd.g_is_binding (B : Hd c mg) : mg "is_binding" = some (.ref (He.ga c.K "is_binding")) := by obtain ⟨h, k1, k2⟩ := B.ns; exact He.glo_ok k1 k2 (B.sy.d.fact 11 (f := .glo "is_binding") rfl)
theorem Hd.g_book_fits (B : Hd c mg) : mg "book_fits" = some (.ref (He.ga c.K "book_fits")) := by obtain ⟨h, k1, k2⟩ := B.ns; exact He.glo_ok k1 k2 (B.sy.d.fact 12 (f := .glo "book_fits") rfl)
theorem Hd.g_look_book (B : Hd c mg) : mg "look_book" = some (.ref (He.ga c.K "look_book")) := by obtain ⟨h, k1, k2⟩ := B.ns; exact He.glo_ok k1 k2 (B.sy.d.fact 13 (f := .glo "look_book") rfl)
theorem Hd.g_look_case (B : Hd c mg) : mg "look_case" = some (.ref (He.ga c.K "look_case")) := by obtain ⟨h, k1, k2⟩ := B.ns; exact He.glo_ok k1 k2 (B.sy.d.fact 14 (f := .glo "look_case") rfl)
theorem Hd.g_claims_of (B : Hd c mg) : mg "claims_of" = some (.ref (He.ga c.K "claims_of")) := by obtain ⟨h, k1, k2⟩ := B.ns; exact He.glo_ok k1 k2 (B.sy.d.fact 15 (f := .glo "claims_of") rfl)
theorem Hd.g_let_at (B : Hd c mg) : mg "let_at" = some (.ref (He.ga c.K "let_at")) := by obtain ⟨h, k1, k2⟩ := B.ns; exact He.glo_ok k1 k2 (B.sy.d.fact 16 (f := .glo "let_at") rfl)
theorem Hd.g_led (B : Hd c mg) : mg "led" = some (.ref (He.ga c.K "led")) := by obtain ⟨h, k1, k2⟩ := B.ns; exact He.glo_ok k1 k2 (B.sy.d.fact 17 (f := .glo "led") rfl)
theorem Hd.g_ahead_lots (B : Hd c mg) : mg "ahead_lots" = some (.ref (He.ga c.K "ahead_lots")) := by obtain ⟨h, k1, k2⟩ := B.ns; exact He.glo_ok k1 k2 (B.sy.d.fact 18 (f := .glo "ahead_lots") rfl)
theorem Hd.g_behind_lots (B : Hd c mg) : mg "behind_lots" = some (.ref (He.ga c.K "behind_lots")) := by obtain ⟨h, k1, k2⟩ := B.ns; exact He.glo_ok k1 k2 (B.sy.d.fact 19 (f := .glo "behind_lots") rfl)
theorem Hd.g_met_lots (B : Hd c mg) : mg "met_lots" = some (.ref (He.ga c.K "met_lots")) := by obtain ⟨h, k1, k2⟩ := B.ns; exact He.glo_ok k1 k2 (B.sy.d.fact 20 (f := .glo "met_lots") rfl)
theorem Hd.g_is_step (B : Hd c mg) : mg "is_step" = some (.ref (He.ga c.K "is_step")) := by obtain ⟨h, k1, k2⟩ := B.ns; exact He.glo_ok k1 k2 (B.sy.d.fact 21 (f := .glo "is_step") rfl)
theorem Hd.g_first_of (B : Hd c mg) : mg "first_of" = some (.ref (He.ga c.K "first_of")) := by obtain ⟨h, k1, k2⟩ := B.ns; exact He.glo_ok k1 k2 (B.sy.d.fact 22 (f := .glo "first_of") rfl)
theorem Hd.g_walks (B : Hd c mg) : mg "walks" = some (.ref (He.ga c.K "walks")) := by obtain ⟨h, k1, k2⟩ := B.ns; exact He.glo_ok k1 k2 (B.sy.d.fact 23 (f := .glo "walks") rfl)
theorem Hd.g_broken_by (B : Hd c mg) : mg "broken_by" = some (.ref (He.ga c.K "broken_by")) := by obtain ⟨h, k1, k2⟩ := B.ns; exact He.glo_ok k1 k2 (B.sy.d.fact 24 (f := .glo "broken_by") rfl)
theorem Hd.g_look_wish (B : Hd c mg) : mg "look_wish" = some (.ref (He.ga c.K "look_wish")) := by obtain ⟨h, k1, k2⟩ := B.ns; exact He.glo_ok k1 k2 (B.sy.d.fact 25 (f := .glo "look_wish") rfl)
theorem Hd.g_lots_of (B : Hd c mg) : mg "lots_of" = some (.ref (He.ga c.K "lots_of")) := by obtain ⟨h, k1, k2⟩ := B.ns; exact He.glo_ok k1 k2 (B.sy.d.fact 26 (f := .glo "lots_of") rfl)
theorem Hd.g_bars (B : Hd c mg) : mg "bars" = some (.ref (He.ga c.K "bars")) := by obtain ⟨h, k1, k2⟩ := B.ns; exact He.glo_ok k1 k2 (B.sy.d.fact 27 (f := .glo "bars") rfl)
theorem Hd.g_core_of (B : Hd c mg) : mg "core_of" = some (.ref (He.ga c.K "core_of")) := by obtain ⟨h, k1, k2⟩ := B.ns; exact He.glo_ok k1 k2 (B.sy.d.fact 28 (f := .glo "core_of") rfl)
theorem Hd.g_core (B : Hd c mg) : mg "core" = some (.ref (He.ga c.K "core")) := by obtain ⟨h, k1, k2⟩ := B.ns; exact He.glo_ok k1 k2 (B.sy.d.fact 29 (f := .glo "core") rfl)
theorem Hd.g_meets (B : Hd c mg) : mg "meets" = some (.ref (He.ga c.K "meets")) := by obtain ⟨h, k1, k2⟩ := B.ns; exact He.glo_ok k1 k2 (B.sy.d.fact 30 (f := .glo "meets") rfl)
theorem Hd.g_least_paper (B : Hd c mg) : mg "least_paper" = some (.ref (He.ga c.K "least_paper")) := by obtain ⟨h, k1, k2⟩ := B.ns; exact He.glo_ok k1 k2 (B.sy.d.fact 31 (f := .glo "least_paper") rfl)
theorem Hd.g_shows_least (B : Hd c mg) : mg "shows_least" = some (.ref (He.ga c.K "shows_least")) := by obtain ⟨h, k1, k2⟩ := B.ns; exact He.glo_ok k1 k2 (B.sy.d.fact 32 (f := .glo "shows_least") rfl)
theorem Hd.g_needed (B : Hd c mg) : mg "needed" = some (.ref (He.ga c.K "needed")) := by obtain ⟨h, k1, k2⟩ := B.ns; exact He.glo_ok k1 k2 (B.sy.d.fact 33 (f := .glo "needed") rfl)
theorem Hd.g_is_question (B : Hd c mg) : mg "is_question" = some (.ref (He.ga c.K "is_question")) := by obtain ⟨h, k1, k2⟩ := B.ns; exact He.glo_ok k1 k2 (B.sy.d.fact 34 (f := .glo "is_question") rfl)
theorem Hd.g_look_question (B : Hd c mg) : mg "look_question" = some (.ref (He.ga c.K "look_question")) := by obtain ⟨h, k1, k2⟩ := B.ns; exact He.glo_ok k1 k2 (B.sy.d.fact 35 (f := .glo "look_question") rfl)
theorem Hd.g_answer_in (B : Hd c mg) : mg "answer_in" = some (.ref (He.ga c.K "answer_in")) := by obtain ⟨h, k1, k2⟩ := B.ns; exact He.glo_ok k1 k2 (B.sy.d.fact 36 (f := .glo "answer_in") rfl)
theorem Hd.g_answers (B : Hd c mg) : mg "answers" = some (.ref (He.ga c.K "answers")) := by obtain ⟨h, k1, k2⟩ := B.ns; exact He.glo_ok k1 k2 (B.sy.d.fact 37 (f := .glo "answers") rfl)
theorem Hd.g_stands_with (B : Hd c mg) : mg "stands_with" = some (.ref (He.ga c.K "stands_with")) := by obtain ⟨h, k1, k2⟩ := B.ns; exact He.glo_ok k1 k2 (B.sy.d.fact 38 (f := .glo "stands_with") rfl)
theorem Hd.g_settled (B : Hd c mg) : mg "settled" = some (.ref (He.ga c.K "settled")) := by obtain ⟨h, k1, k2⟩ := B.ns; exact He.glo_ok k1 k2 (B.sy.d.fact 39 (f := .glo "settled") rfl)
theorem Hd.g_settles (B : Hd c mg) : mg "settles" = some (.ref (He.ga c.K "settles")) := by obtain ⟨h, k1, k2⟩ := B.ns; exact He.glo_ok k1 k2 (B.sy.d.fact 40 (f := .glo "settles") rfl)
theorem Hd.g_questions (B : Hd c mg) : mg "questions" = some (.ref (He.ga c.K "questions")) := by obtain ⟨h, k1, k2⟩ := B.ns; exact He.glo_ok k1 k2 (B.sy.d.fact 41 (f := .glo "questions") rfl)
theorem Hd.g_settling (B : Hd c mg) : mg "settling" = some (.ref (He.ga c.K "settling")) := by obtain ⟨h, k1, k2⟩ := B.ns; exact He.glo_ok k1 k2 (B.sy.d.fact 42 (f := .glo "settling") rfl)
theorem Hd.g_open_still (B : Hd c mg) : mg "open_still" = some (.ref (He.ga c.K "open_still")) := by obtain ⟨h, k1, k2⟩ := B.ns; exact He.glo_ok k1 k2 (B.sy.d.fact 43 (f := .glo "open_still") rfl)
theorem Hd.g_story_outside (B : Hd c mg) : mg "story_outside" = some (.ref (He.ga c.K "story_outside")) := by obtain ⟨h, k1, k2⟩ := B.ns; exact He.glo_ok k1 k2 (B.sy.d.fact 44 (f := .glo "story_outside") rfl)
theorem Hd.g_fits_at (B : Hd c mg) : mg "fits_at" = some (.ref (He.ga c.K "fits_at")) := by obtain ⟨h, k1, k2⟩ := B.ns; exact He.glo_ok k1 k2 (B.sy.d.fact 45 (f := .glo "fits_at") rfl)
theorem Hd.g_parting (B : Hd c mg) : mg "parting" = some (.ref (He.ga c.K "parting")) := by obtain ⟨h, k1, k2⟩ := B.ns; exact He.glo_ok k1 k2 (B.sy.d.fact 46 (f := .glo "parting") rfl)
theorem Hd.g_alike (B : Hd c mg) : mg "alike" = some (.ref (He.ga c.K "alike")) := by obtain ⟨h, k1, k2⟩ := B.ns; exact He.glo_ok k1 k2 (B.sy.d.fact 47 (f := .glo "alike") rfl)
theorem Hd.g__law_town (B : Hd c mg) : mg "_law_town" = some (.ref (He.ga c.K "_law_town")) := by obtain ⟨h, k1, k2⟩ := B.ns; exact He.glo_ok k1 k2 (B.sy.d.fact 48 (f := .glo "_law_town") rfl)
theorem Hd.g__law_draw (B : Hd c mg) : mg "_law_draw" = some (.ref (He.ga c.K "_law_draw")) := by obtain ⟨h, k1, k2⟩ := B.ns; exact He.glo_ok k1 k2 (B.sy.d.fact 49 (f := .glo "_law_draw") rfl)
theorem Hd.g__law_refusal (B : Hd c mg) : mg "_law_refusal" = some (.ref (He.ga c.K "_law_refusal")) := by obtain ⟨h, k1, k2⟩ := B.ns; exact He.glo_ok k1 k2 (B.sy.d.fact 50 (f := .glo "_law_refusal") rfl)
theorem Hd.g__law_does (B : Hd c mg) : mg "_law_does" = some (.ref (He.ga c.K "_law_does")) := by obtain ⟨h, k1, k2⟩ := B.ns; exact He.glo_ok k1 k2 (B.sy.d.fact 51 (f := .glo "_law_does") rfl)
theorem Hd.g__law_asked (B : Hd c mg) : mg "_law_asked" = some (.ref (He.ga c.K "_law_asked")) := by obtain ⟨h, k1, k2⟩ := B.ns; exact He.glo_ok k1 k2 (B.sy.d.fact 52 (f := .glo "_law_asked") rfl)
theorem Hd.g__law_paper (B : Hd c mg) : mg "_law_paper" = some (.ref (He.ga c.K "_law_paper")) := by obtain ⟨h, k1, k2⟩ := B.ns; exact He.glo_ok k1 k2 (B.sy.d.fact 53 (f := .glo "_law_paper") rfl)
theorem Hd.g__law_papers (B : Hd c mg) : mg "_law_papers" = some (.ref (He.ga c.K "_law_papers")) := by obtain ⟨h, k1, k2⟩ := B.ns; exact He.glo_ok k1 k2 (B.sy.d.fact 54 (f := .glo "_law_papers") rfl)
theorem Hd.g_law (B : Hd c mg) : mg "law" = some (.ref (He.ga c.K "law")) := by obtain ⟨h, k1, k2⟩ := B.ns; exact He.glo_ok k1 k2 (B.sy.d.fact 55 (f := .glo "law") rfl)
theorem Hd.g_WhereError (B : Hd c mg) : mg "WhereError" = some (.ref (He.ga c.K "WhereError")) := by obtain ⟨h, k1, k2⟩ := B.ns; exact He.glo_ok k1 k2 (B.sy.d.fact 56 (f := .glo "WhereError") rfl)
theorem Hd.g_BadHouse (B : Hd c mg) : mg "BadHouse" = some (.ref (He.ga c.K "BadHouse")) := by obtain ⟨h, k1, k2⟩ := B.ns; exact He.glo_ok k1 k2 (B.sy.d.fact 57 (f := .glo "BadHouse") rfl)
theorem Hd.g_BadFolk (B : Hd c mg) : mg "BadFolk" = some (.ref (He.ga c.K "BadFolk")) := by obtain ⟨h, k1, k2⟩ := B.ns; exact He.glo_ok k1 k2 (B.sy.d.fact 58 (f := .glo "BadFolk") rfl)
theorem Hd.g_BadBeat (B : Hd c mg) : mg "BadBeat" = some (.ref (He.ga c.K "BadBeat")) := by obtain ⟨h, k1, k2⟩ := B.ns; exact He.glo_ok k1 k2 (B.sy.d.fact 59 (f := .glo "BadBeat") rfl)
theorem Hd.g_BadRoom (B : Hd c mg) : mg "BadRoom" = some (.ref (He.ga c.K "BadRoom")) := by obtain ⟨h, k1, k2⟩ := B.ns; exact He.glo_ok k1 k2 (B.sy.d.fact 60 (f := .glo "BadRoom") rfl)
theorem Hd.g_BadBook (B : Hd c mg) : mg "BadBook" = some (.ref (He.ga c.K "BadBook")) := by obtain ⟨h, k1, k2⟩ := B.ns; exact He.glo_ok k1 k2 (B.sy.d.fact 61 (f := .glo "BadBook") rfl)
theorem Hd.g_BadPaper (B : Hd c mg) : mg "BadPaper" = some (.ref (He.ga c.K "BadPaper")) := by obtain ⟨h, k1, k2⟩ := B.ns; exact He.glo_ok k1 k2 (B.sy.d.fact 62 (f := .glo "BadPaper") rfl)
theorem Hd.g_BadText (B : Hd c mg) : mg "BadText" = some (.ref (He.ga c.K "BadText")) := by obtain ⟨h, k1, k2⟩ := B.ns; exact He.glo_ok k1 k2 (B.sy.d.fact 63 (f := .glo "BadText") rfl)
theorem Hd.g_NoneSuch (B : Hd c mg) : mg "NoneSuch" = some (.ref (He.ga c.K "NoneSuch")) := by obtain ⟨h, k1, k2⟩ := B.ns; exact He.glo_ok k1 k2 (B.sy.d.fact 64 (f := .glo "NoneSuch") rfl)
theorem Hd.g_WORDS (B : Hd c mg) : mg "WORDS" = some (.ref (He.ga c.K "WORDS")) := by obtain ⟨h, k1, k2⟩ := B.ns; exact He.glo_ok k1 k2 (B.sy.d.fact 98 (f := .glo "WORDS") rfl)
theorem Hd.gi_MOST_ROOMS (B : Hd c mg) : ∃ t, mg "MOST_ROOMS" = some (.int 6 t) := by obtain ⟨h, k1, k2⟩ := B.ns; exact He.int_ok k1 k2 (B.sy.d.fact 93 (f := .int "MOST_ROOMS" 6) rfl)
theorem Hd.gi_MOST_LAST (B : Hd c mg) : ∃ t, mg "MOST_LAST" = some (.int 12 t) := by obtain ⟨h, k1, k2⟩ := B.ns; exact He.int_ok k1 k2 (B.sy.d.fact 94 (f := .int "MOST_LAST" 12) rfl)
theorem Hd.gi_MOST_FOLK (B : Hd c mg) : ∃ t, mg "MOST_FOLK" = some (.int 4 t) := by obtain ⟨h, k1, k2⟩ := B.ns; exact He.int_ok k1 k2 (B.sy.d.fact 95 (f := .int "MOST_FOLK" 4) rfl)
theorem Hd.gi_MOST_BINDINGS (B : Hd c mg) : ∃ t, mg "MOST_BINDINGS" = some (.int 30 t) := by obtain ⟨h, k1, k2⟩ := B.ns; exact He.int_ok k1 k2 (B.sy.d.fact 96 (f := .int "MOST_BINDINGS" 30) rfl)
theorem Hd.gi_MOST_CORE_BOOK (B : Hd c mg) : ∃ t, mg "MOST_CORE_BOOK" = some (.int 12 t) := by obtain ⟨h, k1, k2⟩ := B.ns; exact He.int_ok k1 k2 (B.sy.d.fact 97 (f := .int "MOST_CORE_BOOK" 12) rfl)
theorem Hd.gm_WORDS (B : Hd c mg) : mg "WORDS" = some (.ref (He.ga c.K "WORDS")) := B.g_WORDS
theorem Hd.gt_WORDS (B : Hd c mg) : GT c (He.ga c.K "WORDS") WP.g_WORDS := ⟨⟨[.str "at", .str "not", .str "saw", .str "missed", .str "alone", .str "heard"], by decide +kernel, fun H => tupAt_ok (B.sy.c 0) H⟩, by decide +kernel⟩
theorem Hd.kw_core (B : Hd c mg) : GT c (kwAt "core" "liars" c.K) [] := ⟨⟨[], rfl, fun H => tupAt_ok (B.sy.c 1) H⟩, Nat.zero_le _⟩
theorem Hd.kw_least_paper (B : Hd c mg) : GT c (kwAt "least_paper" "liars" c.K) [] := ⟨⟨[], rfl, fun H => tupAt_ok (B.sy.c 2) H⟩, Nat.zero_le _⟩
theorem Hd.kw_shows_least (B : Hd c mg) : GT c (kwAt "shows_least" "liars" c.K) [] := ⟨⟨[], rfl, fun H => tupAt_ok (B.sy.c 3) H⟩, Nat.zero_le _⟩
theorem Hd.kw_needed (B : Hd c mg) : GT c (kwAt "needed" "liars" c.K) [] := ⟨⟨[], rfl, fun H => tupAt_ok (B.sy.c 4) H⟩, Nat.zero_le _⟩
theorem Hd.kw_answers (B : Hd c mg) : GT c (kwAt "answers" "liars" c.K) [] := ⟨⟨[], rfl, fun H => tupAt_ok (B.sy.c 5) H⟩, Nat.zero_le _⟩
theorem Hd.kw_settles (B : Hd c mg) : GT c (kwAt "settles" "liars" c.K) [] := ⟨⟨[], rfl, fun H => tupAt_ok (B.sy.c 6) H⟩, Nat.zero_le _⟩
theorem Hd.kw_settling (B : Hd c mg) : GT c (kwAt "settling" "liars" c.K) [] := ⟨⟨[], rfl, fun H => tupAt_ok (B.sy.c 7) H⟩, Nat.zero_le _⟩
theorem Hd.kw_open_still (B : Hd c mg) : GT c (kwAt "open_still" "liars" c.K) [] := ⟨⟨[], rfl, fun H => tupAt_ok (B.sy.c 8) H⟩, Nat.zero_le _⟩
theorem Hd.kw_parting (B : Hd c mg) : GT c (kwAt "parting" "liars" c.K) [] := ⟨⟨[], rfl, fun H => tupAt_ok (B.sy.c 9) H⟩, Nat.zero_le _⟩
theorem Hd.kw_alike (B : Hd c mg) : GT c (kwAt "alike" "liars" c.K) [] := ⟨⟨[], rfl, fun H => tupAt_ok (B.sy.c 10) H⟩, Nat.zero_le _⟩
theorem Hd.xc_WhereError (B : Hd c mg) : XC c mg "WhereError" 0 := by
  obtain ⟨a, b, d, e⟩ := He.exc_ok (B.sy.d.fact 65 (f := .exc "WhereError") rfl)
  have q : c.CA 0 = He.ga c.K "WhereError" := by rw [B.ca]; rfl
  exact ⟨by rw [q]; exact B.g_WhereError, by rw [q]; exact a, by rw [q]; exact b, by rw [q]; exact d, by rw [q]; exact e⟩
theorem Hd.xc_BadHouse (B : Hd c mg) : XC c mg "BadHouse" 1 := by
  obtain ⟨a, b, d, e⟩ := He.exc_ok (B.sy.d.fact 66 (f := .exc "BadHouse") rfl)
  have q : c.CA 1 = He.ga c.K "BadHouse" := by rw [B.ca]; rfl
  exact ⟨by rw [q]; exact B.g_BadHouse, by rw [q]; exact a, by rw [q]; exact b, by rw [q]; exact d, by rw [q]; exact e⟩
theorem Hd.xc_BadFolk (B : Hd c mg) : XC c mg "BadFolk" 2 := by
  obtain ⟨a, b, d, e⟩ := He.exc_ok (B.sy.d.fact 67 (f := .exc "BadFolk") rfl)
  have q : c.CA 2 = He.ga c.K "BadFolk" := by rw [B.ca]; rfl
  exact ⟨by rw [q]; exact B.g_BadFolk, by rw [q]; exact a, by rw [q]; exact b, by rw [q]; exact d, by rw [q]; exact e⟩
theorem Hd.xc_BadBeat (B : Hd c mg) : XC c mg "BadBeat" 3 := by
  obtain ⟨a, b, d, e⟩ := He.exc_ok (B.sy.d.fact 68 (f := .exc "BadBeat") rfl)
  have q : c.CA 3 = He.ga c.K "BadBeat" := by rw [B.ca]; rfl
  exact ⟨by rw [q]; exact B.g_BadBeat, by rw [q]; exact a, by rw [q]; exact b, by rw [q]; exact d, by rw [q]; exact e⟩
theorem Hd.xc_BadRoom (B : Hd c mg) : XC c mg "BadRoom" 4 := by
  obtain ⟨a, b, d, e⟩ := He.exc_ok (B.sy.d.fact 69 (f := .exc "BadRoom") rfl)
  have q : c.CA 4 = He.ga c.K "BadRoom" := by rw [B.ca]; rfl
  exact ⟨by rw [q]; exact B.g_BadRoom, by rw [q]; exact a, by rw [q]; exact b, by rw [q]; exact d, by rw [q]; exact e⟩
theorem Hd.xc_BadBook (B : Hd c mg) : XC c mg "BadBook" 5 := by
  obtain ⟨a, b, d, e⟩ := He.exc_ok (B.sy.d.fact 70 (f := .exc "BadBook") rfl)
  have q : c.CA 5 = He.ga c.K "BadBook" := by rw [B.ca]; rfl
  exact ⟨by rw [q]; exact B.g_BadBook, by rw [q]; exact a, by rw [q]; exact b, by rw [q]; exact d, by rw [q]; exact e⟩
theorem Hd.xc_BadPaper (B : Hd c mg) : XC c mg "BadPaper" 6 := by
  obtain ⟨a, b, d, e⟩ := He.exc_ok (B.sy.d.fact 71 (f := .exc "BadPaper") rfl)
  have q : c.CA 6 = He.ga c.K "BadPaper" := by rw [B.ca]; rfl
  exact ⟨by rw [q]; exact B.g_BadPaper, by rw [q]; exact a, by rw [q]; exact b, by rw [q]; exact d, by rw [q]; exact e⟩
theorem Hd.xc_BadText (B : Hd c mg) : XC c mg "BadText" 7 := by
  obtain ⟨a, b, d, e⟩ := He.exc_ok (B.sy.d.fact 72 (f := .exc "BadText") rfl)
  have q : c.CA 7 = He.ga c.K "BadText" := by rw [B.ca]; rfl
  exact ⟨by rw [q]; exact B.g_BadText, by rw [q]; exact a, by rw [q]; exact b, by rw [q]; exact d, by rw [q]; exact e⟩
theorem Hd.xc_NoneSuch (B : Hd c mg) : XC c mg "NoneSuch" 8 := by
  obtain ⟨a, b, d, e⟩ := He.exc_ok (B.sy.d.fact 73 (f := .exc "NoneSuch") rfl)
  have q : c.CA 8 = He.ga c.K "NoneSuch" := by rw [B.ca]; rfl
  exact ⟨by rw [q]; exact B.g_NoneSuch, by rw [q]; exact a, by rw [q]; exact b, by rw [q]; exact d, by rw [q]; exact e⟩
theorem Hd.xf (B : Hd c mg) : XF c := xfB_ok (ca := caOf) (B.sy.c 11) B.ca
theorem Hd.bl (B : Hd c mg) : BL mg := by
  obtain ⟨h, k1, k2⟩ := B.ns
  exact ⟨He.free_ok k1 k2 (B.sy.d.fact 82 (f := .free "len") rfl), He.free_ok k1 k2 (B.sy.d.fact 81 (f := .free "isinstance") rfl), He.free_ok k1 k2 (B.sy.d.fact 75 (f := .free "all") rfl), He.free_ok k1 k2 (B.sy.d.fact 76 (f := .free "any") rfl), He.free_ok k1 k2 (B.sy.d.fact 88 (f := .free "sorted") rfl), He.free_ok k1 k2 (B.sy.d.fact 86 (f := .free "range") rfl), He.free_ok k1 k2 (B.sy.d.fact 83 (f := .free "list") rfl), He.free_ok k1 k2 (B.sy.d.fact 91 (f := .free "tuple") rfl), He.free_ok k1 k2 (B.sy.d.fact 80 (f := .free "int") rfl), He.free_ok k1 k2 (B.sy.d.fact 89 (f := .free "str") rfl), He.free_ok k1 k2 (B.sy.d.fact 77 (f := .free "bool") rfl), He.free_ok k1 k2 (B.sy.d.fact 79 (f := .free "enumerate") rfl), He.free_ok k1 k2 (B.sy.d.fact 92 (f := .free "zip") rfl), He.free_ok k1 k2 (B.sy.d.fact 84 (f := .free "max") rfl), He.free_ok k1 k2 (B.sy.d.fact 85 (f := .free "min") rfl), He.free_ok k1 k2 (B.sy.d.fact 90 (f := .free "sum") rfl), He.free_ok k1 k2 (B.sy.d.fact 87 (f := .free "set") rfl), He.free_ok k1 k2 (B.sy.d.fact 78 (f := .free "dict") rfl), He.free_ok k1 k2 (B.sy.d.fact 74 (f := .free "ValueError") rfl)⟩
end
theorem ok__law_draw {c : Cfg} {mg : Str → Option Value} {base : Heap} (B : Hd c mg) : Fn c mg base "_law_draw" ["_law_town_here", "_law_count"] 1 drawM := by
  obtain ⟨fd, F⟩ := B.sy.d.def_ 49 (d := d__law_draw) rfl
  have S : FnScope ["_law_town_here", "_law_count", "_law_numbers", "_law_at", "_law_cell", "_law_mixed"] ["_law_town_here", "_law_count"] (defScope (top 72)) := ⟨rfl, rfl, rfl, by decide +kernel, rfl, by decide +kernel, by decide +kernel⟩
  refine Fn.draw (N := ["_law_town_here", "_law_count", "_law_numbers", "_law_at", "_law_cell", "_law_mixed"]) F S B.g__law_draw (F.bindsN fun _ _ _ _ _ _ us hl => match us, hl with | [_, _], _ => rfl) B.bl rfl rfl fun cdv A outer s H E h => ?_
  exact pss_cons (ps_set (i := 2) S.nd rfl (Or.inl rfl) (pe_ix ix_list (pv 0) pe_int (by exact fun _ _ => rfl))) (pss_cons (ps_asg (pe_op op_add (pe_ix ix_list (pv 0) pe_int (by exact fun _ _ => rfl)) pe_int) (pg_sub (pv 0) pe_int set_list))
    (pss_cons (ps_set (i := 3) S.nd rfl (Or.inl rfl) (pe_op op_mod (pe_ix ix_list (pv 0) pe_int (by exact fun _ _ => rfl)) (pe_callB call_len_seq rfl B.bl.len PySem.boot_len (pa_cons (pv 2) pa_nil)))) (pss_cons (ps_set (i := 4) S.nd rfl (Or.inl rfl) (pe_ix ix_list (pv 2) (pv 3) (by exact fun _ _ => rfl)))
    (pss_cons (ps_if (pt_cmpR op_ge (pv 4) pe_int (nomark _)) (pss_cons (ps_asg (pe_op op_fdiv (pv 4) (pv 1)) (pg_sub (pv 2) (pv 3) set_list)) (pss_one (ps_ret (pe_op op_mod (pv 4) (pv 1))))) pss_nil)
    (pss_cons (ps_set (i := 5) S.nd rfl (Or.inl rfl) (pe_op op_mod (pe_op op_add (pv 4) (pe_op op_mul pe_int (pe_ix ix_list (pv 0) pe_int (by exact fun _ _ => rfl)))) pe_int)) (pss_cons (ps_set (i := 5) S.nd rfl (Or.inl rfl) (pe_op op_mod (pe_op op_pow (pv 5) pe_int) pe_int))
    (pss_one (ps_ret (pe_op op_mod (pe_op op_fdiv (pe_op op_mod (pe_op op_add (pe_op op_mul (pe_op op_fdiv (pv 5) pe_int) pe_int) (pv 5)) pe_int) pe_int) (pv 1))))))))))
theorem ok__law_town {c : Cfg} {mg : Str → Option Value} {base : Heap} (B : Hd c mg) : FnS c mg base "_law_town" ["_law_script"] 1 (spTown c) := by
  obtain ⟨fd, F⟩ := B.sy.d.def_ 48 (d := d__law_town) rfl
  have S : FnScope ["_law_script"] ["_law_script"] (defScope (top 71)) := ⟨rfl, rfl, rfl, by decide +kernel, rfl, by decide +kernel, by decide +kernel⟩
  refine FnS.town (N := ["_law_script"]) F S B.g__law_town (F.bindsN fun _ _ _ _ _ _ us hl => match us, hl with | [_], _ => rfl) B.bl rfl rfl fun cdv A outer s H E h => ?_
  exact pss_one (ps_ret (pe_lst (pa_cons (pe_ifExp (pt_cmpR (op_neD (by have := h.units; omega)) (pv 0) (pe_lst pa_nil) (nomark _)) (pe_callTy call_list_of rfl B.bl.list (by decide +kernel) (pa_cons (pv 0) pa_nil)) (pe_lst (pa_cons pe_int pa_nil))) (pa_cons pe_int pa_nil))))
theorem ok_is_whole {c : Cfg} {mg : Str → Option Value} {base : Heap} (B : Hd c mg) : Fn c mg base "is_whole" ["thing", "low", "high"] 1 WP.F_is_whole := by
  obtain ⟨fd, F⟩ := B.sy.d.def_ 0 (d := d_is_whole) rfl
  have S : FnScope ["thing", "low", "high"] ["thing", "low", "high"] (defScope (top 10)) := ⟨rfl, rfl, rfl, by decide +kernel, rfl, by decide +kernel, by decide +kernel⟩
  exact Fn.of (N := ["thing", "low", "high"]) (k := 0) 3 F S B.g_is_whole (F.bindsN fun _ _ _ _ _ _ us hl => match us, hl with | [_, _, _], _ => rfl) B.bl rfl fun cdv A outer s H E h hp =>
   (ds_one (ds_ret (de_and (de_isi_int h (de_var 0)) (de_and (de_not (de_isi_bool h (de_var 0))) (de_one (de_lele (de_var 1) (de_var 0) (de_var 2)))))))
theorem ok_are_pairs {c : Cfg} {mg : Str → Option Value} {base : Heap} (B : Hd c mg) : Fn c mg base "are_pairs" ["thing", "first", "second"] 2 WP.F_are_pairs := by
  obtain ⟨fd, F⟩ := B.sy.d.def_ 1 (d := d_are_pairs) rfl
  have S : FnScope ["thing", "first", "second", "k", "one"] ["thing", "first", "second"] (defScope (top 16)) := ⟨rfl, rfl, rfl, by decide +kernel, rfl, by decide +kernel, by decide +kernel⟩
  exact Fn.of (N := ["thing", "first", "second", "k", "one"]) (k := 1) 5 F S B.g_are_pairs (F.bindsN fun _ _ _ _ _ _ us hl => match us, hl with | [_, _, _], _ => rfl) B.bl rfl fun cdv A outer s H E h hp =>
   (ds_cons (ds_if (dw_or (dt_not (dt_val (de_isi_tuple h (de_var 0)))) (dw_or1 (dt_not (dt_val (de_all h (de_own (do_lc [("one", 4)] h (di_seq h (de_var 0)) (blk_of (by kernel_rfl)) (bdName 4) (by decide) (fun _ _ _ _ _ h1 => ⟨(dg_name 4 h1), dts_nil, (de_and (de_isi_tuple h1 (de_var 4)) (de_one (de_eq h1 (de_len h1 (de_var 4)) de_int)))⟩)))))))).pt
 (ds_one (ds_ret de_bl))
 ds_nil)
 (ds_cons (ds_if (dt_not (dt_val (de_all h (de_own (do_lc [("one", 4)] h (di_seq h (de_var 0)) (blk_of (by kernel_rfl)) (bdName 4) (by decide) (fun _ _ _ _ _ h2 => ⟨(dg_name 4 h2), dts_nil, (de_and (de_fn h2 (ok_is_whole B) (da_cons (de_ix h2 (de_var 4) de_int) (da_cons de_int (da_cons (de_sub (de_var 1) de_int) da_nil)))) (de_one (de_fn h2 (ok_is_whole B) (da_cons (de_ix h2 (de_var 4) de_int) (da_cons de_int (da_cons (de_sub (de_var 2) de_int) da_nil))))))⟩))))))
 (ds_one (ds_ret de_bl))
 ds_nil)
 (ds_one (ds_ret (de_all h (de_own (do_lc [("k", 3)] h (di_range1 h (de_sub (de_len h (de_var 0)) de_int)) (blk_of (by kernel_rfl)) (bdName 3) (by decide) (fun _ _ _ _ _ h3 => ⟨(dg_name 3 h3), dts_nil, (de_lt h3 (de_ix h3 (de_var 0) (de_var 3)) (de_ix h3 (de_var 0) (de_add h3 (de_var 3) de_int)))⟩))))))))
theorem ok_is_house {c : Cfg} {mg : Str → Option Value} {base : Heap} (B : Hd c mg) : Fn c mg base "is_house" ["thing"] 3 WP.F_is_house := by
  obtain ⟨fd, F⟩ := B.sy.d.def_ 2 (d := d_is_house) rfl
  have S : FnScope ["thing", "rooms", "doors", "last", "shut", "dark", "one", "other"] ["thing"] (defScope (top 17)) := ⟨rfl, rfl, rfl, by decide +kernel, rfl, by decide +kernel, by decide +kernel⟩
  exact Fn.of (N := ["thing", "rooms", "doors", "last", "shut", "dark", "one", "other"]) (k := 2) 8 F S B.g_is_house (F.bindsN fun _ _ _ _ _ _ us hl => match us, hl with | [_], _ => rfl) B.bl rfl fun cdv A outer s H E h hp =>
   (ds_cons (ds_if (dw_or (dt_not (dt_val (de_isi_tuple h (de_var 0)))) (dw_or (dt_ne h (de_len h (de_var 0)) de_int) (dw_or1 (dt_not (dt_val (de_fn h (ok_is_whole B) (da_cons (de_ix h (de_var 0) de_int) (da_cons de_int (da_cons (de_gint (B.gi_MOST_ROOMS)) da_nil))))))))).pt
 (ds_one (ds_ret de_bl))
 ds_nil)
 (ds_cons (ds_unp h (pn_cons 1 h (pn_cons 2 h (pn_cons 3 h (pn_cons 4 h (pn_cons 5 h pn_nil))))) (de_var 0))
 (ds_cons (ds_if (dw_or (dt_not (dt_val (de_fn h (ok_are_pairs B) (da_cons (de_var 2) (da_cons (de_var 1) (da_cons (de_var 1) da_nil)))))) (dw_or1 (dt_val (de_any h (de_own (do_lc [("one", 6), ("other", 7)] h (di_seq h (de_var 2)) (blk_of (by kernel_rfl)) (bdTup [6, 7]) (by decide) (fun _ _ _ _ _ h1 => ⟨(dg_tup h1 (pn_cons 6 h1 (pn_cons 7 h1 pn_nil))), dts_nil, (de_ge (de_var 6) (de_var 7))⟩))))))).pt
 (ds_one (ds_ret de_bl))
 ds_nil)
 (ds_cons (ds_if (dt_not (dt_val (de_fn h (ok_is_whole B) (da_cons (de_var 3) (da_cons de_int (da_cons (de_gint (B.gi_MOST_LAST)) da_nil))))))
 (ds_one (ds_ret de_bl))
 ds_nil)
 (ds_one (ds_ret (de_and (de_fn h (ok_are_pairs B) (da_cons (de_var 4) (da_cons (de_add h (de_var 3) de_int) (da_cons (de_len h (de_var 2)) da_nil)))) (de_one (de_fn h (ok_are_pairs B) (da_cons (de_var 5) (da_cons (de_add h (de_var 3) de_int) (da_cons (de_var 1) da_nil))))))))))))
theorem ok_look_house {c : Cfg} {mg : Str → Option Value} {base : Heap} (B : Hd c mg) : Fn c mg base "look_house" ["house", "many"] 4 WP.F_look_house := by
  obtain ⟨fd, F⟩ := B.sy.d.def_ 3 (d := d_look_house) rfl
  have S : FnScope ["house", "many"] ["house", "many"] (defScope (top 18)) := ⟨rfl, rfl, rfl, by decide +kernel, rfl, by decide +kernel, by decide +kernel⟩
  exact Fn.of (N := ["house", "many"]) (k := 3) 2 F S B.g_look_house (F.bindsN fun _ _ _ _ _ _ us hl => match us, hl with | [_, _], _ => rfl) B.bl rfl fun cdv A outer s H E h hp =>
   (ds_one (ds_if (dw_or (dt_not (dt_val (de_fn h (ok_is_house B) (da_cons (de_var 0) da_nil)))) (dw_or1 (dt_not (dt_val (de_fn h (ok_is_whole B) (da_cons (de_var 1) (da_cons de_int (da_cons (de_gint (B.gi_MOST_FOLK)) da_nil)))))))).pt
 (ds_one (ds_raise 1 h (B.xc_BadHouse)))
 ds_nil))
theorem ok_look_folk {c : Cfg} {mg : Str → Option Value} {base : Heap} (B : Hd c mg) : Fn c mg base "look_folk" ["many", "thing"] 2 WP.F_look_folk := by
  obtain ⟨fd, F⟩ := B.sy.d.def_ 4 (d := d_look_folk) rfl
  have S : FnScope ["many", "thing", "k", "one"] ["many", "thing"] (defScope (top 19)) := ⟨rfl, rfl, rfl, by decide +kernel, rfl, by decide +kernel, by decide +kernel⟩
  exact Fn.of (N := ["many", "thing", "k", "one"]) (k := 1) 4 F S B.g_look_folk (F.bindsN fun _ _ _ _ _ _ us hl => match us, hl with | [_, _], _ => rfl) B.bl rfl fun cdv A outer s H E h hp =>
   (ds_cons (ds_if (dw_or (dt_not (dt_val (de_isi_tuple h (de_var 1)))) (dw_or1 (dt_not (dt_val (de_all h (de_own (do_lc [("one", 3)] h (di_seq h (de_var 1)) (blk_of (by kernel_rfl)) (bdName 3) (by decide) (fun _ _ _ _ _ h1 => ⟨(dg_name 3 h1), dts_nil, (de_fn h1 (ok_is_whole B) (da_cons (de_var 3) (da_cons de_int (da_cons (de_sub (de_var 0) de_int) da_nil))))⟩)))))))).pt
 (ds_one (ds_raise 2 h (B.xc_BadFolk)))
 ds_nil)
 (ds_one (ds_if (dt_val (de_any h (de_own (do_lc [("k", 2)] h (di_range1 h (de_sub (de_len h (de_var 1)) de_int)) (blk_of (by kernel_rfl)) (bdName 2) (by decide) (fun _ _ _ _ _ h2 => ⟨(dg_name 2 h2), dts_nil, (de_ge (de_ix h2 (de_var 1) (de_var 2)) (de_ix h2 (de_var 1) (de_add h2 (de_var 2) de_int)))⟩)))))
 (ds_one (ds_raise 2 h (B.xc_BadFolk)))
 ds_nil)))
theorem ok_open_doors {c : Cfg} {mg : Str → Option Value} {base : Heap} (B : Hd c mg) : Fn c mg base "open_doors" ["house", "beat"] 1 WP.F_open_doors := by
  obtain ⟨fd, F⟩ := B.sy.d.def_ 5 (d := d_open_doors) rfl
  have S : FnScope ["house", "beat", "k", "door"] ["house", "beat"] (defScope (top 20)) := ⟨rfl, rfl, rfl, by decide +kernel, rfl, by decide +kernel, by decide +kernel⟩
  exact Fn.of (N := ["house", "beat", "k", "door"]) (k := 0) 4 F S B.g_open_doors (F.bindsN fun _ _ _ _ _ _ us hl => match us, hl with | [_, _], _ => rfl) B.bl rfl fun cdv A outer s H E h hp =>
   (ds_one (ds_ret (de_own (do_lc [("k", 2), ("door", 3)] h (di_enum h (de_ix h (de_var 0) de_int)) (blk_of (by kernel_rfl)) (bdTup [2, 3]) (by decide) (fun _ _ _ _ _ h1 => ⟨(dg_tup h1 (pn_cons 2 h1 (pn_cons 3 h1 pn_nil))), (dts_one (dt_nin h1 (de_tup (da_cons (de_var 1) (da_cons (de_var 2) da_nil))) (de_ix h1 (de_var 0) de_int))), (de_var 3)⟩)))))
theorem ok_beside {c : Cfg} {mg : Str → Option Value} {base : Heap} (B : Hd c mg) : Fn c mg base "beside" ["house", "room", "beat"] 2 WP.F_beside := by
  obtain ⟨fd, F⟩ := B.sy.d.def_ 6 (d := d_beside) rfl
  have S : FnScope ["house", "room", "beat", "found", "one", "other"] ["house", "room", "beat"] (defScope (top 21)) := ⟨rfl, rfl, rfl, by decide +kernel, rfl, by decide +kernel, by decide +kernel⟩
  exact Fn.of (N := ["house", "room", "beat", "found", "one", "other"]) (k := 1) 6 F S B.g_beside (F.bindsN fun _ _ _ _ _ _ us hl => match us, hl with | [_, _, _], _ => rfl) B.bl rfl fun cdv A outer s H E h hp =>
   (ds_cons (ds_setO 3 h (do_lst da_nil))
 (ds_cons (ds_for h hp (di_seq h (de_fn h (ok_open_doors B) (da_cons (de_var 0) (da_cons (de_var 2) da_nil)))) (dg_tup h (pn_cons 4 h (pn_cons 5 h pn_nil)))
 (ds_one (ds_if (dt_in h (de_var 1) (de_tup (da_cons (de_var 4) (da_cons (de_var 5) da_nil))))
 (ds_one (ds_app 3 h (de_sub (de_add h (de_var 4) (de_var 5)) (de_var 1))))
 ds_nil)))
 (ds_one (ds_frz 3 (ds_ret (de_own (do_sortA h (de_var 3))))))))
theorem ok_stands {c : Cfg} {mg : Str → Option Value} {base : Heap} (B : Hd c mg) : Fn c mg base "stands" ["house", "many"] 1 WP.F_stands := by
  obtain ⟨fd, F⟩ := B.sy.d.def_ 7 (d := d_stands) rfl
  have S : FnScope ["house", "many", "found", "turn", "one", "room"] ["house", "many"] (defScope (top 22)) := ⟨rfl, rfl, rfl, by decide +kernel, rfl, by decide +kernel, by decide +kernel⟩
  exact Fn.of (N := ["house", "many", "found", "turn", "one", "room"]) (k := 0) 6 F S B.g_stands (F.bindsN fun _ _ _ _ _ _ us hl => match us, hl with | [_, _], _ => rfl) B.bl rfl fun cdv A outer s H E h hp =>
   (ds_cons (ds_set 2 h (de_own (do_lst (da_cons (de_tup da_nil) da_nil))))
 (ds_cons (ds_for h hp (di_range1 h (de_var 1)) (dg_name 3 h)
 (ds_one (ds_frz 2 (ds_setLc2 2 [("one", 4), ("room", 5)] [5] h (di_seq h (de_var 2)) (blk_of (by kernel_rfl)) (bdName 4) (by decide) (bdName 5) (by decide) (by decide) (fun _ _ _ _ _ h1 => ⟨(dg_name 4 h1), dts_nil, (di_range1 h1 (de_ix h1 (de_var 0) de_int)), (dg_name 5 h1), dts_nil, (de_add h1 (de_var 4) (de_tup (da_cons (de_var 5) da_nil)))⟩)))))
 (ds_one (ds_frz 2 (ds_ret (de_var 2))))))
theorem ok_is_stand {c : Cfg} {mg : Str → Option Value} {base : Heap} (B : Hd c mg) : Fn c mg base "is_stand" ["house", "many", "thing"] 2 WP.F_is_stand := by
  obtain ⟨fd, F⟩ := B.sy.d.def_ 8 (d := d_is_stand) rfl
  have S : FnScope ["house", "many", "thing", "one"] ["house", "many", "thing"] (defScope (top 23)) := ⟨rfl, rfl, rfl, by decide +kernel, rfl, by decide +kernel, by decide +kernel⟩
  exact Fn.of (N := ["house", "many", "thing", "one"]) (k := 1) 4 F S B.g_is_stand (F.bindsN fun _ _ _ _ _ _ us hl => match us, hl with | [_, _, _], _ => rfl) B.bl rfl fun cdv A outer s H E h hp =>
   (ds_one (ds_ret (de_and (de_isi_tuple h (de_var 2)) (de_and (de_eq h (de_len h (de_var 2)) (de_var 1)) (de_one (de_all h (de_own (do_lc [("one", 3)] h (di_seq h (de_var 2)) (blk_of (by kernel_rfl)) (bdName 3) (by decide) (fun _ _ _ _ _ h1 => ⟨(dg_name 3 h1), dts_nil, (de_fn h1 (ok_is_whole B) (da_cons (de_var 3) (da_cons de_int (da_cons (de_sub (de_ix h1 (de_var 0) de_int) de_int) da_nil))))⟩)))))))))
theorem ok_is_claim {c : Cfg} {mg : Str → Option Value} {base : Heap} (B : Hd c mg) : Fn c mg base "is_claim" ["house", "many", "thing"] 2 WP.F_is_claim := by
  obtain ⟨fd, F⟩ := B.sy.d.def_ 9 (d := d_is_claim) rfl
  have S : FnScope ["house", "many", "thing", "word", "who", "beat", "what"] ["house", "many", "thing"] (defScope (top 24)) := ⟨rfl, rfl, rfl, by decide +kernel, rfl, by decide +kernel, by decide +kernel⟩
  exact Fn.of (N := ["house", "many", "thing", "word", "who", "beat", "what"]) (k := 1) 7 F S B.g_is_claim (F.bindsN fun _ _ _ _ _ _ us hl => match us, hl with | [_, _, _], _ => rfl) B.bl rfl fun cdv A outer s H E h hp =>
   (ds_cons (ds_if (dw_or (dt_not (dt_val (de_isi_tuple h (de_var 2)))) (dw_or (dt_ne h (de_len h (de_var 2)) de_int) (dw_or (dt_not (dt_val (de_isi_str h (de_ix h (de_var 2) de_int)))) (dw_or1 (dt_nin h (de_ix h (de_var 2) de_int) (de_gtup (B.gm_WORDS) (B.gt_WORDS))))))).pt
 (ds_one (ds_ret de_bl))
 ds_nil)
 (ds_cons (ds_unp h (pn_cons 3 h (pn_cons 4 h (pn_cons 5 h (pn_cons 6 h pn_nil)))) (de_var 2))
 (ds_cons (ds_if (dw_or (dt_not (dt_val (de_fn h (ok_is_whole B) (da_cons (de_var 4) (da_cons de_int (da_cons (de_sub (de_var 1) de_int) da_nil)))))) (dw_or1 (dt_not (dt_val (de_fn h (ok_is_whole B) (da_cons (de_var 5) (da_cons de_int (da_cons (de_ix h (de_var 0) de_int) da_nil)))))))).pt
 (ds_one (ds_ret de_bl))
 ds_nil)
 (ds_cons (ds_if (dt_in h (de_var 3) (de_tup (da_cons de_str (da_cons de_str da_nil))))
 (ds_one (ds_ret (de_fn h (ok_is_whole B) (da_cons (de_var 6) (da_cons de_int (da_cons (de_sub (de_ix h (de_var 0) de_int) de_int) da_nil))))))
 ds_nil)
 (ds_cons (ds_if (dt_in h (de_var 3) (de_tup (da_cons de_str (da_cons de_str da_nil))))
 (ds_one (ds_ret (de_is (de_var 6) de_non)))
 ds_nil)
 (ds_one (ds_ret (de_and (de_fn h (ok_is_whole B) (da_cons (de_var 6) (da_cons de_int (da_cons (de_sub (de_var 1) de_int) da_nil)))) (de_one (de_ne h (de_var 6) (de_var 4)))))))))))
theorem ok_holds {c : Cfg} {mg : Str → Option Value} {base : Heap} (B : Hd c mg) : Fn c mg base "holds" ["house", "stand", "claim"] 3 WP.F_holds := by
  obtain ⟨fd, F⟩ := B.sy.d.def_ 10 (d := d_holds) rfl
  have S : FnScope ["house", "stand", "claim", "room", "others", "word", "who", "beat", "what", "one"] ["house", "stand", "claim"] (defScope (top 25)) := ⟨rfl, rfl, rfl, by decide +kernel, rfl, by decide +kernel, by decide +kernel⟩
  exact Fn.of (N := ["house", "stand", "claim", "room", "others", "word", "who", "beat", "what", "one"]) (k := 2) 10 F S B.g_holds (F.bindsN fun _ _ _ _ _ _ us hl => match us, hl with | [_, _, _], _ => rfl) B.bl rfl fun cdv A outer s H E h hp =>
   (ds_cons (ds_unp h (pn_cons 5 h (pn_cons 6 h (pn_cons 7 h (pn_cons 8 h pn_nil)))) (de_var 2))
 (ds_cons (ds_set 3 h (de_ix h (de_var 1) (de_var 6)))
 (ds_cons (ds_if (dt_eq h (de_var 5) de_str)
 (ds_one (ds_ret (de_eq h (de_var 3) (de_var 8))))
 ds_nil)
 (ds_cons (ds_if (dt_eq h (de_var 5) de_str)
 (ds_one (ds_ret (de_ne h (de_var 3) (de_var 8))))
 ds_nil)
 (ds_cons (ds_if (dt_eq h (de_var 5) de_str)
 (ds_one (ds_ret (de_and (de_eq h (de_ix h (de_var 1) (de_var 8)) (de_var 3)) (de_one (de_nin h (de_tup (da_cons (de_var 7) (da_cons (de_var 3) da_nil))) (de_ix h (de_var 0) de_int))))))
 ds_nil)
 (ds_cons (ds_if (dt_eq h (de_var 5) de_str)
 (ds_one (ds_ret (de_ne h (de_ix h (de_var 1) (de_var 8)) (de_var 3))))
 ds_nil)
 (ds_cons (ds_set 4 h (de_own (do_lc [("one", 9)] h (di_range1 h (de_len h (de_var 1))) (blk_of (by kernel_rfl)) (bdName 9) (by decide) (fun _ _ _ _ _ h1 => ⟨(dg_name 9 h1), (dts_one (dt_ne h1 (de_var 9) (de_var 6))), (de_ix h1 (de_var 1) (de_var 9))⟩))))
 (ds_cons (ds_if (dt_eq h (de_var 5) de_str)
 (ds_one (ds_ret (de_nin h (de_var 3) (de_var 4))))
 ds_nil)
 (ds_one (ds_ret (de_any h (de_own (do_lc [("one", 9)] h (di_seq h (de_fn h (ok_beside B) (da_cons (de_var 0) (da_cons (de_var 3) (da_cons (de_var 7) da_nil))))) (blk_of (by kernel_rfl)) (bdName 9) (by decide) (fun _ _ _ _ _ h2 => ⟨(dg_name 9 h2), dts_nil, (de_in h2 (de_var 9) (de_var 4))⟩))))))))))))))
theorem ok_is_binding {c : Cfg} {mg : Str → Option Value} {base : Heap} (B : Hd c mg) : Fn c mg base "is_binding" ["house", "many", "thing"] 3 WP.F_is_binding := by
  obtain ⟨fd, F⟩ := B.sy.d.def_ 11 (d := d_is_binding) rfl
  have S : FnScope ["house", "many", "thing"] ["house", "many", "thing"] (defScope (top 28)) := ⟨rfl, rfl, rfl, by decide +kernel, rfl, by decide +kernel, by decide +kernel⟩
  exact Fn.of (N := ["house", "many", "thing"]) (k := 2) 3 F S B.g_is_binding (F.bindsN fun _ _ _ _ _ _ us hl => match us, hl with | [_, _, _], _ => rfl) B.bl rfl fun cdv A outer s H E h hp =>
   (ds_cons (ds_if (dw_or (dt_not (dt_val (de_isi_tuple h (de_var 2)))) (dw_or (dt_ne h (de_len h (de_var 2)) de_int) (dw_or1 (dt_not (dt_val (de_fn h (ok_is_claim B) (da_cons (de_var 0) (da_cons (de_var 1) (da_cons (de_ix h (de_var 2) de_int) da_nil))))))))).pt
 (ds_one (ds_ret de_bl))
 ds_nil)
 (ds_one (ds_ret (de_or (de_is (de_ix h (de_var 2) de_int) de_non) (de_one (de_fn h (ok_is_whole B) (da_cons (de_ix h (de_var 2) de_int) (da_cons de_int (da_cons (de_sub (de_var 1) de_int) da_nil)))))))))
theorem ok_book_fits {c : Cfg} {mg : Str → Option Value} {base : Heap} (B : Hd c mg) : Fn c mg base "book_fits" ["house", "many", "thing"] 4 WP.F_book_fits := by
  obtain ⟨fd, F⟩ := B.sy.d.def_ 12 (d := d_book_fits) rfl
  have S : FnScope ["house", "many", "thing", "one"] ["house", "many", "thing"] (defScope (top 29)) := ⟨rfl, rfl, rfl, by decide +kernel, rfl, by decide +kernel, by decide +kernel⟩
  exact Fn.of (N := ["house", "many", "thing", "one"]) (k := 3) 4 F S B.g_book_fits (F.bindsN fun _ _ _ _ _ _ us hl => match us, hl with | [_, _, _], _ => rfl) B.bl rfl fun cdv A outer s H E h hp =>
   (ds_cons (ds_if (dw_or (dt_not (dt_val (de_isi_list h (de_var 2)))) (dw_or1 (dt_gt (de_len h (de_var 2)) (de_gint (B.gi_MOST_BINDINGS))))).pt
 (ds_one (ds_ret de_bl))
 ds_nil)
 (ds_one (ds_ret (de_all h (de_own (do_lc [("one", 3)] h (di_seq h (de_var 2)) (blk_of (by kernel_rfl)) (bdName 3) (by decide) (fun _ _ _ _ _ h1 => ⟨(dg_name 3 h1), dts_nil, (de_fn h1 (ok_is_binding B) (da_cons (de_var 0) (da_cons (de_var 1) (da_cons (de_var 3) da_nil))))⟩)))))))
theorem ok_look_book {c : Cfg} {mg : Str → Option Value} {base : Heap} (B : Hd c mg) : Fn c mg base "look_book" ["house", "many", "book"] 5 WP.F_look_book := by
  obtain ⟨fd, F⟩ := B.sy.d.def_ 13 (d := d_look_book) rfl
  have S : FnScope ["house", "many", "book"] ["house", "many", "book"] (defScope (top 30)) := ⟨rfl, rfl, rfl, by decide +kernel, rfl, by decide +kernel, by decide +kernel⟩
  exact Fn.of (N := ["house", "many", "book"]) (k := 4) 3 F S B.g_look_book (F.bindsN fun _ _ _ _ _ _ us hl => match us, hl with | [_, _, _], _ => rfl) B.bl rfl fun cdv A outer s H E h hp =>
   (ds_cons (ds_expr (de_fn h (ok_look_house B) (da_cons (de_var 0) (da_cons (de_var 1) da_nil))))
 (ds_one (ds_if (dt_not (dt_val (de_fn h (ok_book_fits B) (da_cons (de_var 0) (da_cons (de_var 1) (da_cons (de_var 2) da_nil))))))
 (ds_one (ds_raise 5 h (B.xc_BadBook)))
 ds_nil)))
theorem ok_look_case {c : Cfg} {mg : Str → Option Value} {base : Heap} (B : Hd c mg) : Fn c mg base "look_case" ["house", "many", "book", "liars"] 6 WP.F_look_case := by
  obtain ⟨fd, F⟩ := B.sy.d.def_ 14 (d := d_look_case) rfl
  have S : FnScope ["house", "many", "book", "liars"] ["house", "many", "book", "liars"] (defScope (top 31)) := ⟨rfl, rfl, rfl, by decide +kernel, rfl, by decide +kernel, by decide +kernel⟩
  exact Fn.of (N := ["house", "many", "book", "liars"]) (k := 5) 4 F S B.g_look_case (F.bindsN fun _ _ _ _ _ _ us hl => match us, hl with | [_, _, _, _], _ => rfl) B.bl rfl fun cdv A outer s H E h hp =>
   (ds_cons (ds_expr (de_fn h (ok_look_book B) (da_cons (de_var 0) (da_cons (de_var 1) (da_cons (de_var 2) da_nil)))))
 (ds_one (ds_expr (de_fn h (ok_look_folk B) (da_cons (de_var 1) (da_cons (de_var 3) da_nil))))))
theorem ok_claims_of {c : Cfg} {mg : Str → Option Value} {base : Heap} (B : Hd c mg) : Fn c mg base "claims_of" ["book", "liars"] 1 WP.F_claims_of := by
  obtain ⟨fd, F⟩ := B.sy.d.def_ 15 (d := d_claims_of) rfl
  have S : FnScope ["book", "liars", "teller", "claim"] ["book", "liars"] (defScope (top 32)) := ⟨rfl, rfl, rfl, by decide +kernel, rfl, by decide +kernel, by decide +kernel⟩
  exact Fn.of (N := ["book", "liars", "teller", "claim"]) (k := 0) 4 F S B.g_claims_of (F.bindsN fun _ _ _ _ _ _ us hl => match us, hl with | [_, _], _ => rfl) B.bl rfl fun cdv A outer s H E h hp =>
   (ds_one (ds_ret (de_own (do_lc [("teller", 2), ("claim", 3)] h (di_seq h (de_var 0)) (blk_of (by kernel_rfl)) (bdTup [2, 3]) (by decide) (fun _ _ _ _ _ h1 => ⟨(dg_tup h1 (pn_cons 2 h1 (pn_cons 3 h1 pn_nil))), (dts_one (dt_nin h1 (de_var 2) (de_var 1))), (de_var 3)⟩)))))
theorem ok_let_at {c : Cfg} {mg : Str → Option Value} {base : Heap} (B : Hd c mg) : Fn c mg base "let_at" ["house", "many", "claims", "beat"] 4 WP.F_let_at := by
  obtain ⟨fd, F⟩ := B.sy.d.def_ 16 (d := d_let_at) rfl
  have S : FnScope ["house", "many", "claims", "beat", "own", "claim", "one"] ["house", "many", "claims", "beat"] (defScope (top 34)) := ⟨rfl, rfl, rfl, by decide +kernel, rfl, by decide +kernel, by decide +kernel⟩
  exact Fn.of (N := ["house", "many", "claims", "beat", "own", "claim", "one"]) (k := 3) 7 F S B.g_let_at (F.bindsN fun _ _ _ _ _ _ us hl => match us, hl with | [_, _, _, _], _ => rfl) B.bl rfl fun cdv A outer s H E h hp =>
   (ds_cons (ds_set 4 h (de_own (do_lc [("claim", 5)] h (di_seq h (de_var 2)) (blk_of (by kernel_rfl)) (bdName 5) (by decide) (fun _ _ _ _ _ h1 => ⟨(dg_name 5 h1), (dts_one (dt_eq h1 (de_ix h1 (de_var 5) de_int) (de_var 3))), (de_var 5)⟩))))
 (ds_one (ds_ret (de_own (do_lc [("one", 6)] h (di_seq h (de_fn h (ok_stands B) (da_cons (de_var 0) (da_cons (de_var 1) da_nil)))) (blk_of (by kernel_rfl)) (bdName 6) (by decide) (fun _ _ _ _ _ h2 => ⟨(dg_name 6 h2), (dts_one (dt_val (de_all h2 (de_own (do_lc [("claim", 5)] h2 (di_seq h2 (de_var 4)) (blk_of (by kernel_rfl)) (bdName 5) (by decide) (fun _ _ _ _ _ h3 => ⟨(dg_name 5 h3), dts_nil, (de_fn h3 (ok_holds B) (da_cons (de_var 0) (da_cons (de_var 6) (da_cons (de_var 5) da_nil))))⟩)))))), (de_var 6)⟩))))))
theorem ok_led {c : Cfg} {mg : Str → Option Value} {base : Heap} (B : Hd c mg) : Fn c mg base "led" ["house", "lot", "beat"] 3 WP.F_led := by
  obtain ⟨fd, F⟩ := B.sy.d.def_ 17 (d := d_led) rfl
  have S : FnScope ["house", "lot", "beat", "found", "rooms", "who", "room", "one"] ["house", "lot", "beat"] (defScope (top 35)) := ⟨rfl, rfl, rfl, by decide +kernel, rfl, by decide +kernel, by decide +kernel⟩
  exact Fn.of (N := ["house", "lot", "beat", "found", "rooms", "who", "room", "one"]) (k := 2) 8 F S B.g_led (F.bindsN fun _ _ _ _ _ _ us hl => match us, hl with | [_, _, _], _ => rfl) B.bl rfl fun cdv A outer s H E h hp =>
   (ds_cons (ds_set 3 h (de_var 1))
 (ds_cons (ds_set 4 h (de_own (do_lc [("room", 6)] h (di_range1 h (de_ix h (de_var 0) de_int)) (blk_of (by kernel_rfl)) (bdName 6) (by decide) (fun _ _ _ _ _ h1 => ⟨(dg_name 6 h1), dts_nil, (de_add h1 (de_own (do_lst (da_cons (de_var 6) da_nil))) (de_fn h1 (ok_beside B) (da_cons (de_var 0) (da_cons (de_var 6) (da_cons (de_var 2) da_nil)))))⟩))))
 (ds_cons (ds_for h hp (di_range1 h (de_max h (de_add h (de_own (do_lst (da_cons de_int da_nil))) (de_own (do_lc [("one", 7)] h (di_seq h (de_var 1)) (blk_of (by kernel_rfl)) (bdName 7) (by decide) (fun _ _ _ _ _ h2 => ⟨(dg_name 7 h2), dts_nil, (de_len h2 (de_var 7))⟩)))))) (dg_name 5 h)
 (ds_one (ds_frz 3 (ds_setDc2 3 [("one", 7), ("room", 6)] [6] h (di_seq h (de_var 3)) (blk_of (by kernel_rfl)) (bdName 7) (by decide) (bdName 6) (by decide) (by decide) (fun _ _ _ _ _ h3 => ⟨(dg_name 7 h3), dts_nil, (di_seq h3 (de_ix h3 (de_var 4) (de_ix h3 (de_var 7) (de_var 5)))), (dg_name 6 h3), dts_nil, (de_add h3 (de_add h3 (de_sl h3 (de_var 7) dp_no (dp_in (de_var 5))) (de_tup (da_cons (de_var 6) da_nil))) (de_sl h3 (de_var 7) (dp_in (de_add h3 (de_var 5) de_int)) dp_no)), de_bl⟩)))))
 (ds_one (ds_frz 3 (ds_ret (de_var 3)))))))
theorem ok_ahead_lots {c : Cfg} {mg : Str → Option Value} {base : Heap} (B : Hd c mg) : Fn c mg base "ahead_lots" ["house", "many", "claims"] 5 WP.F_ahead_lots := by
  obtain ⟨fd, F⟩ := B.sy.d.def_ 18 (d := d_ahead_lots) rfl
  have S : FnScope ["house", "many", "claims", "found", "lot", "beat", "let", "one"] ["house", "many", "claims"] (defScope (top 36)) := ⟨rfl, rfl, rfl, by decide +kernel, rfl, by decide +kernel, by decide +kernel⟩
  exact Fn.of (N := ["house", "many", "claims", "found", "lot", "beat", "let", "one"]) (k := 4) 8 F S B.g_ahead_lots (F.bindsN fun _ _ _ _ _ _ us hl => match us, hl with | [_, _, _], _ => rfl) B.bl rfl fun cdv A outer s H E h hp =>
   (ds_cons (ds_setO 3 h (do_lst da_nil))
 (ds_cons (ds_set 4 h (de_ownD (dy_dc [("one", 7)] h (di_seq h (de_fn h (ok_stands B) (da_cons (de_var 0) (da_cons (de_var 1) da_nil)))) (blk_of (by kernel_rfl)) (bdName 7) (by decide) (fun _ _ _ _ _ h1 => ⟨(dg_name 7 h1), dts_nil, (de_var 7), de_bl⟩))))
 (ds_cons (ds_for h hp (di_range1 h (de_add h (de_ix h (de_var 0) de_int) de_int)) (dg_name 5 h)
 (ds_cons (ds_set 6 h (de_fn h (ok_let_at B) (da_cons (de_var 0) (da_cons (de_var 1) (da_cons (de_var 2) (da_cons (de_var 5) da_nil))))))
 (ds_cons (ds_app 3 h (de_ownD (dy_dc [("one", 7)] h (di_seq h (de_var 6)) (blk_of (by kernel_rfl)) (bdName 7) (by decide) (fun _ _ _ _ _ h2 => ⟨(dg_name 7 h2), (dts_one (dt_in h2 (de_var 7) (de_var 4))), (de_var 7), de_bl⟩))))
 (ds_one (ds_set 4 h (de_fn h (ok_led B) (da_cons (de_var 0) (da_cons (de_atO 3 h (de_neg de_int)) (da_cons (de_var 5) da_nil)))))))))
 (ds_one (ds_frz 3 (ds_ret (de_var 3)))))))
theorem ok_behind_lots {c : Cfg} {mg : Str → Option Value} {base : Heap} (B : Hd c mg) : Fn c mg base "behind_lots" ["house", "many", "claims"] 5 WP.F_behind_lots := by
  obtain ⟨fd, F⟩ := B.sy.d.def_ 19 (d := d_behind_lots) rfl
  have S : FnScope ["house", "many", "claims", "found", "lot", "beat", "let", "one"] ["house", "many", "claims"] (defScope (top 37)) := ⟨rfl, rfl, rfl, by decide +kernel, rfl, by decide +kernel, by decide +kernel⟩
  exact Fn.of (N := ["house", "many", "claims", "found", "lot", "beat", "let", "one"]) (k := 4) 8 F S B.g_behind_lots (F.bindsN fun _ _ _ _ _ _ us hl => match us, hl with | [_, _, _], _ => rfl) B.bl rfl fun cdv A outer s H E h hp =>
   (ds_cons (ds_setO 3 h (do_lst da_nil))
 (ds_cons (ds_set 4 h (de_ownD (dy_dc [("one", 7)] h (di_seq h (de_fn h (ok_stands B) (da_cons (de_var 0) (da_cons (de_var 1) da_nil)))) (blk_of (by kernel_rfl)) (bdName 7) (by decide) (fun _ _ _ _ _ h1 => ⟨(dg_name 7 h1), dts_nil, (de_var 7), de_bl⟩))))
 (ds_cons (ds_for h hp (di_range3 h (de_ix h (de_var 0) de_int) (de_neg de_int) (de_neg de_int)) (dg_name 5 h)
 (ds_cons (ds_set 6 h (de_fn h (ok_let_at B) (da_cons (de_var 0) (da_cons (de_var 1) (da_cons (de_var 2) (da_cons (de_var 5) da_nil))))))
 (ds_cons (ds_app 3 h (de_ownD (dy_dc [("one", 7)] h (di_seq h (de_var 6)) (blk_of (by kernel_rfl)) (bdName 7) (by decide) (fun _ _ _ _ _ h2 => ⟨(dg_name 7 h2), (dts_one (dt_in h2 (de_var 7) (de_var 4))), (de_var 7), de_bl⟩))))
 (ds_one (ds_set 4 h (de_fn h (ok_led B) (da_cons (de_var 0) (da_cons (de_atO 3 h (de_neg de_int)) (da_cons (de_sub (de_var 5) de_int) da_nil)))))))))
 (ds_one (ds_frz 3 (ds_ret (de_rev h (de_var 3))))))))
theorem ok_met_lots {c : Cfg} {mg : Str → Option Value} {base : Heap} (B : Hd c mg) : Fn c mg base "met_lots" ["house", "many", "claims"] 6 WP.F_met_lots := by
  obtain ⟨fd, F⟩ := B.sy.d.def_ 20 (d := d_met_lots) rfl
  have S : FnScope ["house", "many", "claims", "ahead", "behind", "k", "one"] ["house", "many", "claims"] (defScope (top 38)) := ⟨rfl, rfl, rfl, by decide +kernel, rfl, by decide +kernel, by decide +kernel⟩
  exact Fn.of (N := ["house", "many", "claims", "ahead", "behind", "k", "one"]) (k := 5) 7 F S B.g_met_lots (F.bindsN fun _ _ _ _ _ _ us hl => match us, hl with | [_, _, _], _ => rfl) B.bl rfl fun cdv A outer s H E h hp =>
   (ds_cons (ds_set 3 h (de_fn h (ok_ahead_lots B) (da_cons (de_var 0) (da_cons (de_var 1) (da_cons (de_var 2) da_nil)))))
 (ds_cons (ds_set 4 h (de_fn h (ok_behind_lots B) (da_cons (de_var 0) (da_cons (de_var 1) (da_cons (de_var 2) da_nil)))))
 (ds_one (ds_ret (de_own (do_lc [("k", 5)] h (di_range1 h (de_len h (de_var 3))) (blk_of (by kernel_rfl)) (bdName 5) (by decide) (fun _ _ _ _ _ h1 => ⟨(dg_name 5 h1), dts_nil, (de_own (do_sortA h1 (de_own (do_lc [("one", 6)] h1 (di_seq h1 (de_ix h1 (de_var 3) (de_var 5))) (blk_of (by kernel_rfl)) (bdName 6) (by decide) (fun _ _ _ _ _ h2 => ⟨(dg_name 6 h2), (dts_one (dt_in h2 (de_var 6) (de_ix h2 (de_var 4) (de_var 5)))), (de_var 6)⟩)))))⟩)))))))
theorem ok_is_step {c : Cfg} {mg : Str → Option Value} {base : Heap} (B : Hd c mg) : Fn c mg base "is_step" ["house", "one", "other", "beat"] 3 WP.F_is_step := by
  obtain ⟨fd, F⟩ := B.sy.d.def_ 21 (d := d_is_step) rfl
  have S : FnScope ["house", "one", "other", "beat", "pairs", "here", "there"] ["house", "one", "other", "beat"] (defScope (top 39)) := ⟨rfl, rfl, rfl, by decide +kernel, rfl, by decide +kernel, by decide +kernel⟩
  exact Fn.of (N := ["house", "one", "other", "beat", "pairs", "here", "there"]) (k := 2) 7 F S B.g_is_step (F.bindsN fun _ _ _ _ _ _ us hl => match us, hl with | [_, _, _, _], _ => rfl) B.bl rfl fun cdv A outer s H E h hp =>
   (ds_cons (ds_set 4 h (de_own (do_zip h (de_var 1) (de_var 2))))
 (ds_one (ds_ret (de_all h (de_own (do_lc [("here", 5), ("there", 6)] h (di_seq h (de_var 4)) (blk_of (by kernel_rfl)) (bdTup [5, 6]) (by decide) (fun _ _ _ _ _ h1 => ⟨(dg_tup h1 (pn_cons 5 h1 (pn_cons 6 h1 pn_nil))), dts_nil, (de_or (de_eq h1 (de_var 5) (de_var 6)) (de_one (de_in h1 (de_var 6) (de_fn h1 (ok_beside B) (da_cons (de_var 0) (da_cons (de_var 5) (da_cons (de_var 3) da_nil)))))))⟩)))))))
theorem ok_first_of {c : Cfg} {mg : Str → Option Value} {base : Heap} (B : Hd c mg) : Fn c mg base "first_of" ["house", "many", "claims"] 7 WP.F_first_of := by
  obtain ⟨fd, F⟩ := B.sy.d.def_ 22 (d := d_first_of) rfl
  have S : FnScope ["house", "many", "claims", "lot", "found", "beat", "one"] ["house", "many", "claims"] (defScope (top 40)) := ⟨rfl, rfl, rfl, by decide +kernel, rfl, by decide +kernel, by decide +kernel⟩
  exact Fn.of (N := ["house", "many", "claims", "lot", "found", "beat", "one"]) (k := 6) 7 F S B.g_first_of (F.bindsN fun _ _ _ _ _ _ us hl => match us, hl with | [_, _, _], _ => rfl) B.bl rfl fun cdv A outer s H E h hp =>
   (ds_cons (ds_set 3 h (de_fn h (ok_met_lots B) (da_cons (de_var 0) (da_cons (de_var 1) (da_cons (de_var 2) da_nil)))))
 (ds_cons (ds_if (dt_eq h (de_ix h (de_var 3) de_int) (de_own (do_lst da_nil)))
 (ds_one (ds_ret de_non))
 ds_nil)
 (ds_cons (ds_setO 4 h (do_lst (da_cons (de_ix h (de_ix h (de_var 3) de_int) de_int) da_nil)))
 (ds_cons (ds_for h hp (di_range2 h de_int (de_len h (de_var 3))) (dg_name 5 h)
 (ds_one (ds_app 4 h (de_ix h (de_own (do_lc [("one", 6)] h (di_seq h (de_ix h (de_var 3) (de_var 5))) (blk_of (by kernel_rfl)) (bdName 6) (by decide) (fun _ _ _ _ _ h1 => ⟨(dg_name 6 h1), (dts_one (dt_val (de_fn h1 (ok_is_step B) (da_cons (de_var 0) (da_cons (de_atO 4 h1 (de_neg de_int)) (da_cons (de_var 6) (da_cons (de_sub (de_var 5) de_int) da_nil))))))), (de_var 6)⟩))) de_int))))
 (ds_one (ds_frz 4 (ds_ret (de_var 4))))))))
theorem ok_walks {c : Cfg} {mg : Str → Option Value} {base : Heap} (B : Hd c mg) : Fn c mg base "walks" ["house", "many", "thing"] 4 WP.F_walks := by
  obtain ⟨fd, F⟩ := B.sy.d.def_ 23 (d := d_walks) rfl
  have S : FnScope ["house", "many", "thing", "k", "one"] ["house", "many", "thing"] (defScope (top 41)) := ⟨rfl, rfl, rfl, by decide +kernel, rfl, by decide +kernel, by decide +kernel⟩
  exact Fn.of (N := ["house", "many", "thing", "k", "one"]) (k := 3) 5 F S B.g_walks (F.bindsN fun _ _ _ _ _ _ us hl => match us, hl with | [_, _, _], _ => rfl) B.bl rfl fun cdv A outer s H E h hp =>
   (ds_cons (ds_if (dw_or (dt_not (dt_val (de_isi_list h (de_var 2)))) (dw_or1 (dt_ne h (de_len h (de_var 2)) (de_add h (de_ix h (de_var 0) de_int) de_int)))).pt
 (ds_one (ds_ret de_bl))
 ds_nil)
 (ds_cons (ds_if (dt_not (dt_val (de_all h (de_own (do_lc [("one", 4)] h (di_seq h (de_var 2)) (blk_of (by kernel_rfl)) (bdName 4) (by decide) (fun _ _ _ _ _ h1 => ⟨(dg_name 4 h1), dts_nil, (de_fn h1 (ok_is_stand B) (da_cons (de_var 0) (da_cons (de_var 1) (da_cons (de_var 4) da_nil))))⟩))))))
 (ds_one (ds_ret de_bl))
 ds_nil)
 (ds_one (ds_ret (de_all h (de_own (do_lc [("k", 3)] h (di_range1 h (de_sub (de_len h (de_var 2)) de_int)) (blk_of (by kernel_rfl)) (bdName 3) (by decide) (fun _ _ _ _ _ h2 => ⟨(dg_name 3 h2), dts_nil, (de_fn h2 (ok_is_step B) (da_cons (de_var 0) (da_cons (de_ix h2 (de_var 2) (de_var 3)) (da_cons (de_ix h2 (de_var 2) (de_add h2 (de_var 3) de_int)) (da_cons (de_var 3) da_nil)))))⟩))))))))
theorem ok_broken_by {c : Cfg} {mg : Str → Option Value} {base : Heap} (B : Hd c mg) : Fn c mg base "broken_by" ["house", "story", "book"] 4 WP.F_broken_by := by
  obtain ⟨fd, F⟩ := B.sy.d.def_ 24 (d := d_broken_by) rfl
  have S : FnScope ["house", "story", "book", "k"] ["house", "story", "book"] (defScope (top 42)) := ⟨rfl, rfl, rfl, by decide +kernel, rfl, by decide +kernel, by decide +kernel⟩
  exact Fn.of (N := ["house", "story", "book", "k"]) (k := 3) 4 F S B.g_broken_by (F.bindsN fun _ _ _ _ _ _ us hl => match us, hl with | [_, _, _], _ => rfl) B.bl rfl fun cdv A outer s H E h hp =>
   (ds_one (ds_ret (de_own (do_lc [("k", 3)] h (di_range1 h (de_len h (de_var 2))) (blk_of (by kernel_rfl)) (bdName 3) (by decide) (fun _ _ _ _ _ h1 => ⟨(dg_name 3 h1), (dts_one (dt_not (dt_val (de_fn h1 (ok_holds B) (da_cons (de_var 0) (da_cons (de_ix h1 (de_var 1) (de_ix h1 (de_ix h1 (de_ix h1 (de_var 2) (de_var 3)) de_int) de_int)) (da_cons (de_ix h1 (de_ix h1 (de_var 2) (de_var 3)) de_int) da_nil))))))), (de_var 3)⟩)))))
theorem ok_look_wish {c : Cfg} {mg : Str → Option Value} {base : Heap} (B : Hd c mg) : Fn c mg base "look_wish" ["house", "many", "book", "wish", "liars"] 7 WP.F_look_wish := by
  obtain ⟨fd, F⟩ := B.sy.d.def_ 25 (d := d_look_wish) rfl
  have S : FnScope ["house", "many", "book", "wish", "liars"] ["house", "many", "book", "wish", "liars"] (defScope (top 45)) := ⟨rfl, rfl, rfl, by decide +kernel, rfl, by decide +kernel, by decide +kernel⟩
  exact Fn.of (N := ["house", "many", "book", "wish", "liars"]) (k := 6) 5 F S B.g_look_wish (F.bindsN fun _ _ _ _ _ _ us hl => match us, hl with | [_, _, _, _, _], _ => rfl) B.bl rfl fun cdv A outer s H E h hp =>
   (ds_cons (ds_expr (de_fn h (ok_look_case B) (da_cons (de_var 0) (da_cons (de_var 1) (da_cons (de_var 2) (da_cons (de_var 4) da_nil))))))
 (ds_one (ds_if (dw_or (dt_gt (de_len h (de_var 2)) (de_gint (B.gi_MOST_CORE_BOOK))) (dw_or1 (dt_not (dt_val (de_fn h (ok_is_claim B) (da_cons (de_var 0) (da_cons (de_var 1) (da_cons (de_var 3) da_nil)))))))).pt
 (ds_one (ds_raise 5 h (B.xc_BadBook)))
 ds_nil)))
theorem ok_lots_of {c : Cfg} {mg : Str → Option Value} {base : Heap} (B : Hd c mg) : Fn c mg base "lots_of" ["numbers", "size"] 1 WP.F_lots_of := by
  obtain ⟨fd, F⟩ := B.sy.d.def_ 26 (d := d_lots_of) rfl
  have S : FnScope ["numbers", "size", "found", "one", "row"] ["numbers", "size"] (defScope (top 46)) := ⟨rfl, rfl, rfl, by decide +kernel, rfl, by decide +kernel, by decide +kernel⟩
  exact Fn.of (N := ["numbers", "size", "found", "one", "row"]) (k := 0) 5 F S B.g_lots_of (F.bindsN fun _ _ _ _ _ _ us hl => match us, hl with | [_, _], _ => rfl) B.bl rfl fun cdv A outer s H E h hp =>
   (ds_cons (ds_set 2 h (de_own (do_lst (da_cons (de_tup da_nil) da_nil))))
 (ds_cons (ds_for h hp (di_seq h (de_var 0)) (dg_name 3 h)
 (ds_one (ds_set 2 h (de_add h (de_var 2) (de_own (do_lc [("row", 4)] h (di_seq h (de_var 2)) (blk_of (by kernel_rfl)) (bdName 4) (by decide) (fun _ _ _ _ _ h1 => ⟨(dg_name 4 h1), (dts_one (dt_lt h1 (de_len h1 (de_var 4)) (de_var 1))), (de_add h1 (de_var 4) (de_tup (da_cons (de_var 3) da_nil)))⟩)))))))
 (ds_one (ds_ret (de_own (do_sortA h (de_own (do_lc [("row", 4)] h (di_seq h (de_var 2)) (blk_of (by kernel_rfl)) (bdName 4) (by decide) (fun _ _ _ _ _ h2 => ⟨(dg_name 4 h2), (dts_one (dt_eq h2 (de_len h2 (de_var 4)) (de_var 1))), (de_var 4)⟩)))))))))
theorem ok_bars {c : Cfg} {mg : Str → Option Value} {base : Heap} (B : Hd c mg) : Fn c mg base "bars" ["house", "many", "book", "row", "wish"] 7 WP.F_bars := by
  obtain ⟨fd, F⟩ := B.sy.d.def_ 27 (d := d_bars) rfl
  have S : FnScope ["house", "many", "book", "row", "wish", "k"] ["house", "many", "book", "row", "wish"] (defScope (top 47)) := ⟨rfl, rfl, rfl, by decide +kernel, rfl, by decide +kernel, by decide +kernel⟩
  exact Fn.of (N := ["house", "many", "book", "row", "wish", "k"]) (k := 6) 6 F S B.g_bars (F.bindsN fun _ _ _ _ _ _ us hl => match us, hl with | [_, _, _, _, _], _ => rfl) B.bl rfl fun cdv A outer s H E h hp =>
   (ds_one (ds_ret (de_eq h (de_ix h (de_fn h (ok_met_lots B) (da_cons (de_var 0) (da_cons (de_var 1) (da_cons (de_add h (de_own (do_lc [("k", 5)] h (di_seq h (de_var 3)) (blk_of (by kernel_rfl)) (bdName 5) (by decide) (fun _ _ _ _ _ h1 => ⟨(dg_name 5 h1), dts_nil, (de_ix h1 (de_ix h1 (de_var 2) (de_var 5)) de_int)⟩))) (de_own (do_lst (da_cons (de_var 4) da_nil)))) da_nil)))) de_int) (de_own (do_lst da_nil)))))
theorem ok_core_of {c : Cfg} {mg : Str → Option Value} {base : Heap} (B : Hd c mg) : Fn c mg base "core_of" ["house", "many", "book", "wish", "liars"] 8 WP.F_core_of := by
  obtain ⟨fd, F⟩ := B.sy.d.def_ 28 (d := d_core_of) rfl
  have S : FnScope ["house", "many", "book", "wish", "liars", "numbers", "size", "row", "k"] ["house", "many", "book", "wish", "liars"] (defScope (top 48)) := ⟨rfl, rfl, rfl, by decide +kernel, rfl, by decide +kernel, by decide +kernel⟩
  exact Fn.of (N := ["house", "many", "book", "wish", "liars", "numbers", "size", "row", "k"]) (k := 7) 9 F S B.g_core_of (F.bindsN fun _ _ _ _ _ _ us hl => match us, hl with | [_, _, _, _, _], _ => rfl) B.bl rfl fun cdv A outer s H E h hp =>
   (ds_cons (ds_setLc 5 [("k", 8)] h (di_range1 h (de_len h (de_var 2))) (blk_of (by kernel_rfl)) (bdName 8) (by decide) (fun _ _ _ _ _ h1 => ⟨(dg_name 8 h1), (dts_one (dt_nin h1 (de_ix h1 (de_ix h1 (de_var 2) (de_var 8)) de_int) (de_var 4))), (de_var 8)⟩))
 (ds_cons (ds_frz 5 (ds_if (dt_not (dt_val (de_fn h (ok_bars B) (da_cons (de_var 0) (da_cons (de_var 1) (da_cons (de_var 2) (da_cons (de_var 5) (da_cons (de_var 3) da_nil))))))))
 (ds_one (ds_ret de_non))
 ds_nil))
 (ds_cons (ds_for h hp (di_range1 h (de_len h (de_var 5))) (dg_name 6 h)
 (ds_one (ds_for h hp (di_seq h (de_fn h (ok_lots_of B) (da_cons (de_var 5) (da_cons (de_var 6) da_nil)))) (dg_name 7 h)
 (ds_one (ds_if (dt_val (de_fn h (ok_bars B) (da_cons (de_var 0) (da_cons (de_var 1) (da_cons (de_var 2) (da_cons (de_var 7) (da_cons (de_var 3) da_nil)))))))
 (ds_one (ds_ret (de_var 7)))
 ds_nil)))))
 (ds_one (ds_ret (de_tuple h (de_var 5)))))))
theorem ok_core {c : Cfg} {mg : Str → Option Value} {base : Heap} (B : Hd c mg) : FnK c mg base "core" ["house", "many", "book", "wish", "liars"] 4 "liars" 9 WP.F_core := by
  obtain ⟨fd, F⟩ := B.sy.d.def_ 29 (d := d_core) rfl
  have S : FnScope ["house", "many", "book", "wish", "liars", "found"] ["house", "many", "book", "wish", "liars"] (defScope (top 49)) := ⟨rfl, rfl, rfl, by decide +kernel, rfl, by decide +kernel, by decide +kernel⟩
  exact FnK.of (N := ["house", "many", "book", "wish", "liars", "found"]) (k := 8) 6 4 F S B.g_core (F.binds0 4 (fun z => nomatch z) rfl fun _ _ _ _ _ _ us ks hl hk => match us, hl, ks, hk with | [_, _, _, _], _, [_], _ => ⟨_, _, _, _, _, _, rfl, rfl, rfl⟩) (FunD.kall F 4 "liars" fun _ _ _ _ _ _ us ws hl hk => match us, hl, ws, hk with | [_, _, _, _], _, [_], _ => rfl) B.kw_core B.bl rfl fun cdv A outer s H E h hp =>
   (ds_cons (ds_expr (de_fn h (ok_look_wish B) (da_cons (de_var 0) (da_cons (de_var 1) (da_cons (de_var 2) (da_cons (de_var 3) (da_cons (de_var 4) da_nil)))))))
 (ds_cons (ds_set 5 h (de_fn h (ok_core_of B) (da_cons (de_var 0) (da_cons (de_var 1) (da_cons (de_var 2) (da_cons (de_var 3) (da_cons (de_var 4) da_nil)))))))
 (ds_cons (ds_if (dt_is (de_var 5) de_non)
 (ds_one (ds_raise 8 h (B.xc_NoneSuch)))
 ds_nil)
 (ds_one (ds_ret (de_var 5))))))
theorem ok_meets {c : Cfg} {mg : Str → Option Value} {base : Heap} (B : Hd c mg) : Fn c mg base "meets" ["row", "lots"] 1 WP.F_meets := by
  obtain ⟨fd, F⟩ := B.sy.d.def_ 30 (d := d_meets) rfl
  have S : FnScope ["row", "lots", "lot", "one"] ["row", "lots"] (defScope (top 50)) := ⟨rfl, rfl, rfl, by decide +kernel, rfl, by decide +kernel, by decide +kernel⟩
  exact Fn.of (N := ["row", "lots", "lot", "one"]) (k := 0) 4 F S B.g_meets (F.bindsN fun _ _ _ _ _ _ us hl => match us, hl with | [_, _], _ => rfl) B.bl rfl fun cdv A outer s H E h hp =>
   (ds_one (ds_ret (de_all h (de_own (do_lc [("lot", 2)] h (di_seq h (de_var 1)) (blk_of (by kernel_rfl)) (bdName 2) (by decide) (fun _ _ _ _ _ h1 => ⟨(dg_name 2 h1), dts_nil, (de_any h1 (de_own (do_lc [("one", 3)] h1 (di_seq h1 (de_var 0)) (blk_of (by kernel_rfl)) (bdName 3) (by decide) (fun _ _ _ _ _ h2 => ⟨(dg_name 3 h2), dts_nil, (de_in h2 (de_var 3) (de_var 2))⟩))))⟩))))))
theorem ok_least_paper {c : Cfg} {mg : Str → Option Value} {base : Heap} (B : Hd c mg) : FnK c mg base "least_paper" ["house", "many", "book", "wish", "liars"] 4 "liars" 9 WP.F_least_paper := by
  obtain ⟨fd, F⟩ := B.sy.d.def_ 31 (d := d_least_paper) rfl
  have S : FnScope ["house", "many", "book", "wish", "liars", "found", "numbers", "told", "broken", "row", "k", "story"] ["house", "many", "book", "wish", "liars"] (defScope (top 51)) := ⟨rfl, rfl, rfl, by decide +kernel, rfl, by decide +kernel, by decide +kernel⟩
  exact FnK.of (N := ["house", "many", "book", "wish", "liars", "found", "numbers", "told", "broken", "row", "k", "story"]) (k := 8) 12 4 F S B.g_least_paper (F.binds0 4 (fun z => nomatch z) rfl fun _ _ _ _ _ _ us ks hl hk => match us, hl, ks, hk with | [_, _, _, _], _, [_], _ => ⟨_, _, _, _, _, _, rfl, rfl, rfl⟩) (FunD.kall F 4 "liars" fun _ _ _ _ _ _ us ws hl hk => match us, hl, ws, hk with | [_, _, _, _], _, [_], _ => rfl) B.kw_least_paper B.bl rfl fun cdv A outer s H E h hp =>
   (ds_cons (ds_expr (de_fn h (ok_look_wish B) (da_cons (de_var 0) (da_cons (de_var 1) (da_cons (de_var 2) (da_cons (de_var 3) (da_cons (de_var 4) da_nil)))))))
 (ds_cons (ds_set 5 h (de_fn h (ok_core_of B) (da_cons (de_var 0) (da_cons (de_var 1) (da_cons (de_var 2) (da_cons (de_var 3) (da_cons (de_var 4) da_nil)))))))
 (ds_cons (ds_if (dt_is (de_var 5) de_non)
 (ds_one (ds_raise 8 h (B.xc_NoneSuch)))
 ds_nil)
 (ds_cons (ds_set 6 h (de_own (do_lc [("k", 10)] h (di_range1 h (de_len h (de_var 2))) (blk_of (by kernel_rfl)) (bdName 10) (by decide) (fun _ _ _ _ _ h1 => ⟨(dg_name 10 h1), (dts_one (dt_nin h1 (de_ix h1 (de_ix h1 (de_var 2) (de_var 10)) de_int) (de_var 4))), (de_var 10)⟩))))
 (ds_cons (ds_setO 7 h (do_lst da_nil))
 (ds_cons (ds_setO 8 h (do_lst da_nil))
 (ds_cons (ds_for h hp (di_seq h (de_if (dt_gt (de_len h (de_var 5)) de_int) (de_fn h (ok_lots_of B) (da_cons (de_var 6) (da_cons (de_sub (de_len h (de_var 5)) de_int) da_nil))) (de_own (do_lst da_nil)))) (dg_name 9 h)
 (ds_one (ds_if (dt_peek 8 (dt_val (de_fn h (ok_meets B) (da_cons (de_var 9) (da_cons (de_var 8) da_nil)))))
 (ds_cons (ds_set 11 h (de_fn h (ok_first_of B) (da_cons (de_var 0) (da_cons (de_var 1) (da_cons (de_add h (de_own (do_lc [("k", 10)] h (di_seq h (de_var 9)) (blk_of (by kernel_rfl)) (bdName 10) (by decide) (fun _ _ _ _ _ h2 => ⟨(dg_name 10 h2), dts_nil, (de_ix h2 (de_ix h2 (de_var 2) (de_var 10)) de_int)⟩))) (de_own (do_lst (da_cons (de_var 3) da_nil)))) da_nil)))))
 (ds_cons (ds_app 7 h (de_var 11))
 (ds_one (ds_app 8 h (de_own (do_lc [("k", 10)] h (di_seq h (de_fn h (ok_broken_by B) (da_cons (de_var 0) (da_cons (de_var 11) (da_cons (de_var 2) da_nil))))) (blk_of (by kernel_rfl)) (bdName 10) (by decide) (fun _ _ _ _ _ h3 => ⟨(dg_name 10 h3), (dts_one (dt_in h3 (de_var 10) (de_var 6))), (de_var 10)⟩)))))))
 ds_nil)))
 (ds_one (ds_frz 7 (ds_ret (de_var 7)))))))))))
theorem ok_shows_least {c : Cfg} {mg : Str → Option Value} {base : Heap} (B : Hd c mg) : FnK c mg base "shows_least" ["house", "many", "book", "wish", "size", "stories", "liars"] 6 "liars" 8 WP.F_shows_least := by
  obtain ⟨fd, F⟩ := B.sy.d.def_ 32 (d := d_shows_least) rfl
  have S : FnScope ["house", "many", "book", "wish", "size", "stories", "liars", "numbers", "broken", "smaller", "k", "one", "row"] ["house", "many", "book", "wish", "size", "stories", "liars"] (defScope (top 52)) := ⟨rfl, rfl, rfl, by decide +kernel, rfl, by decide +kernel, by decide +kernel⟩
  exact FnK.of (N := ["house", "many", "book", "wish", "size", "stories", "liars", "numbers", "broken", "smaller", "k", "one", "row"]) (k := 7) 13 6 F S B.g_shows_least (F.binds0 6 (fun z => nomatch z) rfl fun _ _ _ _ _ _ us ks hl hk => match us, hl, ks, hk with | [_, _, _, _, _, _], _, [_], _ => ⟨_, _, _, _, _, _, rfl, rfl, rfl⟩) (FunD.kall F 6 "liars" fun _ _ _ _ _ _ us ws hl hk => match us, hl, ws, hk with | [_, _, _, _, _, _], _, [_], _ => rfl) B.kw_shows_least B.bl rfl fun cdv A outer s H E h hp =>
   (ds_cons (ds_expr (de_fn h (ok_look_wish B) (da_cons (de_var 0) (da_cons (de_var 1) (da_cons (de_var 2) (da_cons (de_var 3) (da_cons (de_var 6) da_nil)))))))
 (ds_cons (ds_if (dw_or (dt_not (dt_val (de_fn h (ok_is_whole B) (da_cons (de_var 4) (da_cons de_int (da_cons (de_gint (B.gi_MOST_CORE_BOOK)) da_nil)))))) (dw_or1 (dt_not (dt_val (de_isi_list h (de_var 5)))))).pt
 (ds_one (ds_raise 6 h (B.xc_BadPaper)))
 ds_nil)
 (ds_cons (ds_if (dt_not (dt_val (de_all h (de_own (do_lc [("one", 11)] h (di_seq h (de_var 5)) (blk_of (by kernel_rfl)) (bdName 11) (by decide) (fun _ _ _ _ _ h1 => ⟨(dg_name 11 h1), dts_nil, (de_fn h1 (ok_walks B) (da_cons (de_var 0) (da_cons (de_var 1) (da_cons (de_var 11) da_nil))))⟩))))))
 (ds_one (ds_raise 6 h (B.xc_BadPaper)))
 ds_nil)
 (ds_cons (ds_if (dt_not (dt_val (de_all h (de_own (do_lc [("one", 11)] h (di_seq h (de_var 5)) (blk_of (by kernel_rfl)) (bdName 11) (by decide) (fun _ _ _ _ _ h2 => ⟨(dg_name 11 h2), dts_nil, (de_fn h2 (ok_holds B) (da_cons (de_var 0) (da_cons (de_ix h2 (de_var 11) (de_ix h2 (de_var 3) de_int)) (da_cons (de_var 3) da_nil))))⟩))))))
 (ds_one (ds_ret de_bl))
 ds_nil)
 (ds_cons (ds_set 7 h (de_own (do_lc [("k", 10)] h (di_range1 h (de_len h (de_var 2))) (blk_of (by kernel_rfl)) (bdName 10) (by decide) (fun _ _ _ _ _ h3 => ⟨(dg_name 10 h3), (dts_one (dt_nin h3 (de_ix h3 (de_ix h3 (de_var 2) (de_var 10)) de_int) (de_var 6))), (de_var 10)⟩))))
 (ds_cons (ds_set 8 h (de_own (do_lc [("one", 11)] h (di_seq h (de_var 5)) (blk_of (by kernel_rfl)) (bdName 11) (by decide) (fun _ _ _ _ _ h4 => ⟨(dg_name 11 h4), dts_nil, (de_own (do_lc [("k", 10)] h4 (di_seq h4 (de_fn h4 (ok_broken_by B) (da_cons (de_var 0) (da_cons (de_var 11) (da_cons (de_var 2) da_nil))))) (blk_of (by kernel_rfl)) (bdName 10) (by decide) (fun _ _ _ _ _ h5 => ⟨(dg_name 10 h5), (dts_one (dt_in h5 (de_var 10) (de_var 7))), (de_var 10)⟩)))⟩))))
 (ds_cons (ds_if (dt_eq h (de_var 4) de_int)
 (ds_one (ds_ret de_bl))
 ds_nil)
 (ds_cons (ds_set 9 h (de_fn h (ok_lots_of B) (da_cons (de_var 7) (da_cons (de_min2 h (de_sub (de_var 4) de_int) (de_len h (de_var 7))) da_nil))))
 (ds_one (ds_ret (de_not (de_any h (de_own (do_lc [("row", 12)] h (di_seq h (de_var 9)) (blk_of (by kernel_rfl)) (bdName 12) (by decide) (fun _ _ _ _ _ h6 => ⟨(dg_name 12 h6), dts_nil, (de_fn h6 (ok_meets B) (da_cons (de_var 12) (da_cons (de_var 8) da_nil)))⟩)))))))))))))))
theorem ok_needed {c : Cfg} {mg : Str → Option Value} {base : Heap} (B : Hd c mg) : FnK c mg base "needed" ["house", "many", "book", "wish", "liars"] 4 "liars" 8 WP.F_needed := by
  obtain ⟨fd, F⟩ := B.sy.d.def_ 33 (d := d_needed) rfl
  have S : FnScope ["house", "many", "book", "wish", "liars", "numbers", "k", "one"] ["house", "many", "book", "wish", "liars"] (defScope (top 53)) := ⟨rfl, rfl, rfl, by decide +kernel, rfl, by decide +kernel, by decide +kernel⟩
  exact FnK.of (N := ["house", "many", "book", "wish", "liars", "numbers", "k", "one"]) (k := 7) 8 4 F S B.g_needed (F.binds0 4 (fun z => nomatch z) rfl fun _ _ _ _ _ _ us ks hl hk => match us, hl, ks, hk with | [_, _, _, _], _, [_], _ => ⟨_, _, _, _, _, _, rfl, rfl, rfl⟩) (FunD.kall F 4 "liars" fun _ _ _ _ _ _ us ws hl hk => match us, hl, ws, hk with | [_, _, _, _], _, [_], _ => rfl) B.kw_needed B.bl rfl fun cdv A outer s H E h hp =>
   (ds_cons (ds_expr (de_fn h (ok_look_wish B) (da_cons (de_var 0) (da_cons (de_var 1) (da_cons (de_var 2) (da_cons (de_var 3) (da_cons (de_var 4) da_nil)))))))
 (ds_cons (ds_set 5 h (de_own (do_lc [("k", 6)] h (di_range1 h (de_len h (de_var 2))) (blk_of (by kernel_rfl)) (bdName 6) (by decide) (fun _ _ _ _ _ h1 => ⟨(dg_name 6 h1), (dts_one (dt_nin h1 (de_ix h1 (de_ix h1 (de_var 2) (de_var 6)) de_int) (de_var 4))), (de_var 6)⟩))))
 (ds_cons (ds_if (dt_not (dt_val (de_fn h (ok_bars B) (da_cons (de_var 0) (da_cons (de_var 1) (da_cons (de_var 2) (da_cons (de_var 5) (da_cons (de_var 3) da_nil))))))))
 (ds_one (ds_raise 8 h (B.xc_NoneSuch)))
 ds_nil)
 (ds_one (ds_ret (de_own (do_lc [("k", 6)] h (di_seq h (de_var 5)) (blk_of (by kernel_rfl)) (bdName 6) (by decide) (fun _ _ _ _ _ h2 => ⟨(dg_name 6 h2), (dts_one (dt_not (dt_val (de_fn h2 (ok_bars B) (da_cons (de_var 0) (da_cons (de_var 1) (da_cons (de_var 2) (da_cons (de_own (do_lc [("one", 7)] h2 (di_seq h2 (de_var 5)) (blk_of (by kernel_rfl)) (bdName 7) (by decide) (fun _ _ _ _ _ h3 => ⟨(dg_name 7 h3), (dts_one (dt_ne h3 (de_var 7) (de_var 6))), (de_var 7)⟩))) (da_cons (de_var 3) da_nil))))))))), (de_var 6)⟩))))))))
theorem ok_is_question {c : Cfg} {mg : Str → Option Value} {base : Heap} (B : Hd c mg) : Fn c mg base "is_question" ["house", "many", "thing"] 2 WP.F_is_question := by
  obtain ⟨fd, F⟩ := B.sy.d.def_ 34 (d := d_is_question) rfl
  have S : FnScope ["house", "many", "thing"] ["house", "many", "thing"] (defScope (top 55)) := ⟨rfl, rfl, rfl, by decide +kernel, rfl, by decide +kernel, by decide +kernel⟩
  exact Fn.of (N := ["house", "many", "thing"]) (k := 1) 3 F S B.g_is_question (F.bindsN fun _ _ _ _ _ _ us hl => match us, hl with | [_, _, _], _ => rfl) B.bl rfl fun cdv A outer s H E h hp =>
   (ds_cons (ds_if (dw_or (dt_not (dt_val (de_isi_tuple h (de_var 2)))) (dw_or (dt_not (dt_lele de_int (de_len h (de_var 2)) de_int)) (dw_or1 (dt_not (dt_val (de_fn h (ok_is_whole B) (da_cons (de_ix h (de_var 2) (de_neg de_int)) (da_cons de_int (da_cons (de_ix h (de_var 0) de_int) da_nil))))))))).pt
 (ds_one (ds_ret de_bl))
 ds_nil)
 (ds_cons (ds_if (dt_not (dt_val (de_fn h (ok_is_whole B) (da_cons (de_ix h (de_var 2) de_int) (da_cons de_int (da_cons (de_sub (de_var 1) de_int) da_nil))))))
 (ds_one (ds_ret de_bl))
 ds_nil)
 (ds_cons (ds_if (dt_eq h (de_ix h (de_var 2) de_int) de_str)
 (ds_one (ds_ret (de_eq h (de_len h (de_var 2)) de_int)))
 ds_nil)
 (ds_one (ds_ret (de_and (de_eq h (de_ix h (de_var 2) de_int) de_str) (de_and (de_eq h (de_len h (de_var 2)) de_int) (de_one (de_fn h (ok_is_whole B) (da_cons (de_ix h (de_var 2) de_int) (da_cons (de_add h (de_ix h (de_var 2) de_int) de_int) (da_cons (de_sub (de_var 1) de_int) da_nil))))))))))))
theorem ok_look_question {c : Cfg} {mg : Str → Option Value} {base : Heap} (B : Hd c mg) : Fn c mg base "look_question" ["house", "many", "question"] 3 WP.F_look_question := by
  obtain ⟨fd, F⟩ := B.sy.d.def_ 35 (d := d_look_question) rfl
  have S : FnScope ["house", "many", "question"] ["house", "many", "question"] (defScope (top 56)) := ⟨rfl, rfl, rfl, by decide +kernel, rfl, by decide +kernel, by decide +kernel⟩
  exact Fn.of (N := ["house", "many", "question"]) (k := 2) 3 F S B.g_look_question (F.bindsN fun _ _ _ _ _ _ us hl => match us, hl with | [_, _, _], _ => rfl) B.bl rfl fun cdv A outer s H E h hp =>
   (ds_one (ds_if (dt_not (dt_val (de_fn h (ok_is_question B) (da_cons (de_var 0) (da_cons (de_var 1) (da_cons (de_var 2) da_nil))))))
 (ds_one (ds_raise 5 h (B.xc_BadBook)))
 ds_nil))
theorem ok_answer_in {c : Cfg} {mg : Str → Option Value} {base : Heap} (B : Hd c mg) : Fn c mg base "answer_in" ["stand", "question"] 1 WP.F_answer_in := by
  obtain ⟨fd, F⟩ := B.sy.d.def_ 36 (d := d_answer_in) rfl
  have S : FnScope ["stand", "question"] ["stand", "question"] (defScope (top 57)) := ⟨rfl, rfl, rfl, by decide +kernel, rfl, by decide +kernel, by decide +kernel⟩
  exact Fn.of (N := ["stand", "question"]) (k := 0) 2 F S B.g_answer_in (F.bindsN fun _ _ _ _ _ _ us hl => match us, hl with | [_, _], _ => rfl) B.bl rfl fun cdv A outer s H E h hp =>
   (ds_cons (ds_if (dt_eq h (de_ix h (de_var 1) de_int) de_str)
 (ds_one (ds_ret (de_ix h (de_var 0) (de_ix h (de_var 1) de_int))))
 ds_nil)
 (ds_one (ds_ret (de_eq h (de_ix h (de_var 0) (de_ix h (de_var 1) de_int)) (de_ix h (de_var 0) (de_ix h (de_var 1) de_int))))))
theorem ok_answers {c : Cfg} {mg : Str → Option Value} {base : Heap} (B : Hd c mg) : FnK c mg base "answers" ["house", "many", "book", "question", "liars"] 4 "liars" 7 WP.F_answers := by
  obtain ⟨fd, F⟩ := B.sy.d.def_ 37 (d := d_answers) rfl
  have S : FnScope ["house", "many", "book", "question", "liars", "lot", "one"] ["house", "many", "book", "question", "liars"] (defScope (top 58)) := ⟨rfl, rfl, rfl, by decide +kernel, rfl, by decide +kernel, by decide +kernel⟩
  exact FnK.of (N := ["house", "many", "book", "question", "liars", "lot", "one"]) (k := 6) 7 4 F S B.g_answers (F.binds0 4 (fun z => nomatch z) rfl fun _ _ _ _ _ _ us ks hl hk => match us, hl, ks, hk with | [_, _, _, _], _, [_], _ => ⟨_, _, _, _, _, _, rfl, rfl, rfl⟩) (FunD.kall F 4 "liars" fun _ _ _ _ _ _ us ws hl hk => match us, hl, ws, hk with | [_, _, _, _], _, [_], _ => rfl) B.kw_answers B.bl rfl fun cdv A outer s H E h hp =>
   (ds_cons (ds_expr (de_fn h (ok_look_case B) (da_cons (de_var 0) (da_cons (de_var 1) (da_cons (de_var 2) (da_cons (de_var 4) da_nil))))))
 (ds_cons (ds_expr (de_fn h (ok_look_question B) (da_cons (de_var 0) (da_cons (de_var 1) (da_cons (de_var 3) da_nil)))))
 (ds_cons (ds_set 5 h (de_ix h (de_fn h (ok_met_lots B) (da_cons (de_var 0) (da_cons (de_var 1) (da_cons (de_fn h (ok_claims_of B) (da_cons (de_var 2) (da_cons (de_var 4) da_nil))) da_nil)))) (de_ix h (de_var 3) (de_neg de_int))))
 (ds_one (ds_ret (de_own (do_sortDC [("one", 6)] h (di_seq h (de_var 5)) (blk_of (by kernel_rfl)) (bdName 6) (by decide) (fun _ _ _ _ _ h1 => ⟨(dg_name 6 h1), dts_nil, (de_fn h1 (ok_answer_in B) (da_cons (de_var 6) (da_cons (de_var 3) da_nil))), de_bl⟩))))))))
theorem ok_stands_with {c : Cfg} {mg : Str → Option Value} {base : Heap} (B : Hd c mg) : Fn c mg base "stands_with" ["house", "many", "claims", "question", "answer"] 7 WP.F_stands_with := by
  obtain ⟨fd, F⟩ := B.sy.d.def_ 38 (d := d_stands_with) rfl
  have S : FnScope ["house", "many", "claims", "question", "answer", "rows", "room", "row"] ["house", "many", "claims", "question", "answer"] (defScope (top 59)) := ⟨rfl, rfl, rfl, by decide +kernel, rfl, by decide +kernel, by decide +kernel⟩
  exact Fn.of (N := ["house", "many", "claims", "question", "answer", "rows", "room", "row"]) (k := 6) 8 F S B.g_stands_with (F.bindsN fun _ _ _ _ _ _ us hl => match us, hl with | [_, _, _, _, _], _ => rfl) B.bl rfl fun cdv A outer s H E h hp =>
   (ds_cons (ds_if (dt_eq h (de_ix h (de_var 3) de_int) de_str)
 (ds_one (ds_ret (de_own (do_lst (da_cons (de_fn h (ok_met_lots B) (da_cons (de_var 0) (da_cons (de_var 1) (da_cons (de_add h (de_var 2) (de_own (do_lst (da_cons (de_tup (da_cons de_str (da_cons (de_ix h (de_var 3) de_int) (da_cons (de_ix h (de_var 3) de_int) (da_cons (de_var 4) da_nil))))) da_nil)))) da_nil)))) da_nil)))))
 ds_nil)
 (ds_cons (ds_if (dt_not (dt_tru h (de_var 4)))
 (ds_one (ds_ret (de_own (do_lst (da_cons (de_fn h (ok_met_lots B) (da_cons (de_var 0) (da_cons (de_var 1) (da_cons (de_add h (de_var 2) (de_own (do_lst (da_cons (de_tup (da_cons de_str (da_cons (de_ix h (de_var 3) de_int) (da_cons (de_ix h (de_var 3) de_int) (da_cons (de_ix h (de_var 3) de_int) da_nil))))) da_nil)))) da_nil)))) da_nil)))))
 ds_nil)
 (ds_cons (ds_setO 5 h (do_lst da_nil))
 (ds_cons (ds_for h hp (di_range1 h (de_ix h (de_var 0) de_int)) (dg_name 6 h)
 (ds_one (ds_app 5 h (de_own (do_lst (da_cons (de_tup (da_cons de_str (da_cons (de_ix h (de_var 3) de_int) (da_cons (de_ix h (de_var 3) de_int) (da_cons (de_var 6) da_nil))))) (da_cons (de_tup (da_cons de_str (da_cons (de_ix h (de_var 3) de_int) (da_cons (de_ix h (de_var 3) de_int) (da_cons (de_var 6) da_nil))))) da_nil)))))))
 (ds_one (ds_frz 5 (ds_ret (de_own (do_lc [("row", 7)] h (di_seq h (de_var 5)) (blk_of (by kernel_rfl)) (bdName 7) (by decide) (fun _ _ _ _ _ h1 => ⟨(dg_name 7 h1), dts_nil, (de_fn h1 (ok_met_lots B) (da_cons (de_var 0) (da_cons (de_var 1) (da_cons (de_add h1 (de_var 2) (de_var 7)) da_nil))))⟩))))))))))
theorem ok_settled {c : Cfg} {mg : Str → Option Value} {base : Heap} (B : Hd c mg) : Fn c mg base "settled" ["house", "rows", "wish"] 4 WP.F_settled := by
  obtain ⟨fd, F⟩ := B.sy.d.def_ 39 (d := d_settled) rfl
  have S : FnScope ["house", "rows", "wish", "told", "lots", "one"] ["house", "rows", "wish"] (defScope (top 60)) := ⟨rfl, rfl, rfl, by decide +kernel, rfl, by decide +kernel, by decide +kernel⟩
  exact Fn.of (N := ["house", "rows", "wish", "told", "lots", "one"]) (k := 3) 6 F S B.g_settled (F.bindsN fun _ _ _ _ _ _ us hl => match us, hl with | [_, _, _], _ => rfl) B.bl rfl fun cdv A outer s H E h hp =>
   (ds_cons (ds_setLc2 3 [("lots", 4), ("one", 5)] [5] h (di_seq h (de_var 1)) (blk_of (by kernel_rfl)) (bdName 4) (by decide) (bdName 5) (by decide) (by decide) (fun _ _ _ _ _ h1 => ⟨(dg_name 4 h1), dts_nil, (di_seq h1 (de_ix h1 (de_var 4) (de_ix h1 (de_var 2) de_int))), (dg_name 5 h1), dts_nil, (de_fn h1 (ok_holds B) (da_cons (de_var 0) (da_cons (de_var 5) (da_cons (de_var 2) da_nil))))⟩))
 (ds_one (ds_frz 3 (ds_ret (de_or (de_all h (de_var 3)) (de_one (de_not (de_any h (de_var 3)))))))))
theorem ok_settles {c : Cfg} {mg : Str → Option Value} {base : Heap} (B : Hd c mg) : FnK c mg base "settles" ["house", "many", "book", "question", "wish", "liars"] 5 "liars" 8 WP.F_settles := by
  obtain ⟨fd, F⟩ := B.sy.d.def_ 40 (d := d_settles) rfl
  have S : FnScope ["house", "many", "book", "question", "wish", "liars", "claims", "told", "one"] ["house", "many", "book", "question", "wish", "liars"] (defScope (top 61)) := ⟨rfl, rfl, rfl, by decide +kernel, rfl, by decide +kernel, by decide +kernel⟩
  exact FnK.of (N := ["house", "many", "book", "question", "wish", "liars", "claims", "told", "one"]) (k := 7) 9 5 F S B.g_settles (F.binds0 5 (fun z => nomatch z) rfl fun _ _ _ _ _ _ us ks hl hk => match us, hl, ks, hk with | [_, _, _, _, _], _, [_], _ => ⟨_, _, _, _, _, _, rfl, rfl, rfl⟩) (FunD.kall F 5 "liars" fun _ _ _ _ _ _ us ws hl hk => match us, hl, ws, hk with | [_, _, _, _, _], _, [_], _ => rfl) B.kw_settles B.bl rfl fun cdv A outer s H E h hp =>
   (ds_cons (ds_expr (de_fn h (ok_look_case B) (da_cons (de_var 0) (da_cons (de_var 1) (da_cons (de_var 2) (da_cons (de_var 5) da_nil))))))
 (ds_cons (ds_expr (de_fn h (ok_look_question B) (da_cons (de_var 0) (da_cons (de_var 1) (da_cons (de_var 3) da_nil)))))
 (ds_cons (ds_if (dt_not (dt_val (de_fn h (ok_is_claim B) (da_cons (de_var 0) (da_cons (de_var 1) (da_cons (de_var 4) da_nil))))))
 (ds_one (ds_raise 5 h (B.xc_BadBook)))
 ds_nil)
 (ds_cons (ds_set 6 h (de_fn h (ok_claims_of B) (da_cons (de_var 2) (da_cons (de_var 5) da_nil))))
 (ds_cons (ds_set 7 h (de_fnK h (ok_answers B) (da_cons (de_var 0) (da_cons (de_var 1) (da_cons (de_var 2) (da_cons (de_var 3) da_nil)))) (de_var 5)))
 (ds_cons (ds_if (dt_eq h (de_var 7) (de_own (do_lst da_nil)))
 (ds_one (ds_raise 8 h (B.xc_NoneSuch)))
 ds_nil)
 (ds_one (ds_ret (de_all h (de_own (do_lc [("one", 8)] h (di_seq h (de_var 7)) (blk_of (by kernel_rfl)) (bdName 8) (by decide) (fun _ _ _ _ _ h1 => ⟨(dg_name 8 h1), dts_nil, (de_fn h1 (ok_settled B) (da_cons (de_var 0) (da_cons (de_fn h1 (ok_stands_with B) (da_cons (de_var 0) (da_cons (de_var 1) (da_cons (de_var 6) (da_cons (de_var 3) (da_cons (de_var 8) da_nil)))))) (da_cons (de_var 4) da_nil))))⟩))))))))))))
theorem ok_questions {c : Cfg} {mg : Str → Option Value} {base : Heap} (B : Hd c mg) : Fn c mg base "questions" ["house", "many"] 1 WP.F_questions := by
  obtain ⟨fd, F⟩ := B.sy.d.def_ 41 (d := d_questions) rfl
  have S : FnScope ["house", "many", "found", "one", "other", "who", "beat"] ["house", "many"] (defScope (top 62)) := ⟨rfl, rfl, rfl, by decide +kernel, rfl, by decide +kernel, by decide +kernel⟩
  exact Fn.of (N := ["house", "many", "found", "one", "other", "who", "beat"]) (k := 0) 7 F S B.g_questions (F.bindsN fun _ _ _ _ _ _ us hl => match us, hl with | [_, _], _ => rfl) B.bl rfl fun cdv A outer s H E h hp =>
   (ds_cons (ds_setLc2 2 [("who", 5), ("beat", 6)] [6] h (di_range1 h (de_var 1)) (blk_of (by kernel_rfl)) (bdName 5) (by decide) (bdName 6) (by decide) (by decide) (fun _ _ _ _ _ h1 => ⟨(dg_name 5 h1), dts_nil, (di_range1 h1 (de_add h1 (de_ix h1 (de_var 0) de_int) de_int)), (dg_name 6 h1), dts_nil, (de_tup (da_cons de_str (da_cons (de_var 5) (da_cons (de_var 6) da_nil))))⟩))
 (ds_cons (ds_for h hp (di_range1 h (de_var 1)) (dg_name 3 h)
 (ds_one (ds_for h hp (di_range2 h (de_add h (de_var 3) de_int) (de_var 1)) (dg_name 4 h)
 (ds_one ds_fail))))
 (ds_one (ds_frz 2 (ds_ret (de_var 2))))))
theorem ok_settling {c : Cfg} {mg : Str → Option Value} {base : Heap} (B : Hd c mg) : FnK c mg base "settling" ["house", "many", "book", "wish", "liars"] 4 "liars" 9 WP.F_settling := by
  obtain ⟨fd, F⟩ := B.sy.d.def_ 42 (d := d_settling) rfl
  have S : FnScope ["house", "many", "book", "wish", "liars", "one"] ["house", "many", "book", "wish", "liars"] (defScope (top 63)) := ⟨rfl, rfl, rfl, by decide +kernel, rfl, by decide +kernel, by decide +kernel⟩
  exact FnK.of (N := ["house", "many", "book", "wish", "liars", "one"]) (k := 8) 6 4 F S B.g_settling (F.binds0 4 (fun z => nomatch z) rfl fun _ _ _ _ _ _ us ks hl hk => match us, hl, ks, hk with | [_, _, _, _], _, [_], _ => ⟨_, _, _, _, _, _, rfl, rfl, rfl⟩) (FunD.kall F 4 "liars" fun _ _ _ _ _ _ us ws hl hk => match us, hl, ws, hk with | [_, _, _, _], _, [_], _ => rfl) B.kw_settling B.bl rfl fun cdv A outer s H E h hp =>
   (ds_cons (ds_expr (de_fn h (ok_look_case B) (da_cons (de_var 0) (da_cons (de_var 1) (da_cons (de_var 2) (da_cons (de_var 4) da_nil))))))
 (ds_cons (ds_if (dt_not (dt_val (de_fn h (ok_is_claim B) (da_cons (de_var 0) (da_cons (de_var 1) (da_cons (de_var 3) da_nil))))))
 (ds_one (ds_raise 5 h (B.xc_BadBook)))
 ds_nil)
 (ds_cons (ds_if (dt_eq h (de_ix h (de_fn h (ok_met_lots B) (da_cons (de_var 0) (da_cons (de_var 1) (da_cons (de_fn h (ok_claims_of B) (da_cons (de_var 2) (da_cons (de_var 4) da_nil))) da_nil)))) de_int) (de_own (do_lst da_nil)))
 (ds_one (ds_raise 8 h (B.xc_NoneSuch)))
 ds_nil)
 (ds_one (ds_ret (de_own (do_lc [("one", 5)] h (di_seq h (de_fn h (ok_questions B) (da_cons (de_var 0) (da_cons (de_var 1) da_nil)))) (blk_of (by kernel_rfl)) (bdName 5) (by decide) (fun _ _ _ _ _ h1 => ⟨(dg_name 5 h1), (dts_one (dt_val (de_fnK h1 (ok_settles B) (da_cons (de_var 0) (da_cons (de_var 1) (da_cons (de_var 2) (da_cons (de_var 5) (da_cons (de_var 3) da_nil))))) (de_var 4)))), (de_var 5)⟩))))))))
theorem ok_open_still {c : Cfg} {mg : Str → Option Value} {base : Heap} (B : Hd c mg) : FnK c mg base "open_still" ["house", "many", "book", "wish", "liars"] 4 "liars" 7 WP.F_open_still := by
  obtain ⟨fd, F⟩ := B.sy.d.def_ 43 (d := d_open_still) rfl
  have S : FnScope ["house", "many", "book", "wish", "liars", "lot", "told", "one"] ["house", "many", "book", "wish", "liars"] (defScope (top 64)) := ⟨rfl, rfl, rfl, by decide +kernel, rfl, by decide +kernel, by decide +kernel⟩
  exact FnK.of (N := ["house", "many", "book", "wish", "liars", "lot", "told", "one"]) (k := 6) 8 4 F S B.g_open_still (F.binds0 4 (fun z => nomatch z) rfl fun _ _ _ _ _ _ us ks hl hk => match us, hl, ks, hk with | [_, _, _, _], _, [_], _ => ⟨_, _, _, _, _, _, rfl, rfl, rfl⟩) (FunD.kall F 4 "liars" fun _ _ _ _ _ _ us ws hl hk => match us, hl, ws, hk with | [_, _, _, _], _, [_], _ => rfl) B.kw_open_still B.bl rfl fun cdv A outer s H E h hp =>
   (ds_cons (ds_expr (de_fn h (ok_look_case B) (da_cons (de_var 0) (da_cons (de_var 1) (da_cons (de_var 2) (da_cons (de_var 4) da_nil))))))
 (ds_cons (ds_if (dt_not (dt_val (de_fn h (ok_is_claim B) (da_cons (de_var 0) (da_cons (de_var 1) (da_cons (de_var 3) da_nil))))))
 (ds_one (ds_raise 5 h (B.xc_BadBook)))
 ds_nil)
 (ds_cons (ds_set 5 h (de_ix h (de_fn h (ok_met_lots B) (da_cons (de_var 0) (da_cons (de_var 1) (da_cons (de_fn h (ok_claims_of B) (da_cons (de_var 2) (da_cons (de_var 4) da_nil))) da_nil)))) (de_ix h (de_var 3) de_int)))
 (ds_cons (ds_setLc 6 [("one", 7)] h (di_seq h (de_var 5)) (blk_of (by kernel_rfl)) (bdName 7) (by decide) (fun _ _ _ _ _ h1 => ⟨(dg_name 7 h1), dts_nil, (de_fn h1 (ok_holds B) (da_cons (de_var 0) (da_cons (de_var 7) (da_cons (de_var 3) da_nil))))⟩))
 (ds_one (ds_frz 6 (ds_ret (de_and (de_any h (de_var 6)) (de_one (de_not (de_all h (de_var 6))))))))))))
theorem ok_fits_at {c : Cfg} {mg : Str → Option Value} {base : Heap} (B : Hd c mg) : Fn c mg base "fits_at" ["house", "stand", "claims", "beat"] 4 WP.F_fits_at := by
  obtain ⟨fd, F⟩ := B.sy.d.def_ 45 (d := d_fits_at) rfl
  have S : FnScope ["house", "stand", "claims", "beat", "claim"] ["house", "stand", "claims", "beat"] (defScope (top 67)) := ⟨rfl, rfl, rfl, by decide +kernel, rfl, by decide +kernel, by decide +kernel⟩
  exact Fn.of (N := ["house", "stand", "claims", "beat", "claim"]) (k := 3) 5 F S B.g_fits_at (F.bindsN fun _ _ _ _ _ _ us hl => match us, hl with | [_, _, _, _], _ => rfl) B.bl rfl fun cdv A outer s H E h hp =>
   (ds_one (ds_ret (de_all h (de_own (do_lc [("claim", 4)] h (di_seq h (de_var 2)) (blk_of (by kernel_rfl)) (bdName 4) (by decide) (fun _ _ _ _ _ h1 => ⟨(dg_name 4 h1), (dts_one (dt_eq h1 (de_ix h1 (de_var 4) de_int) (de_var 3))), (de_fn h1 (ok_holds B) (da_cons (de_var 0) (da_cons (de_var 1) (da_cons (de_var 4) da_nil))))⟩))))))
theorem ok_story_outside {c : Cfg} {mg : Str → Option Value} {base : Heap} (B : Hd c mg) : Fn c mg base "story_outside" ["house", "other", "fine"] 5 WP.F_story_outside_v2 := by
  obtain ⟨fd, F⟩ := B.sy.d.def_ 44 (d := d_story_outside) rfl
  have S : FnScope ["house", "other", "fine", "rows", "ways", "beat", "good", "fresh", "row", "stand", "there", "key", "story"] ["house", "other", "fine"] (defScope (top 66)) := ⟨rfl, rfl, rfl, by decide +kernel, rfl, by decide +kernel, by decide +kernel⟩
  exact Fn.of (N := ["house", "other", "fine", "rows", "ways", "beat", "good", "fresh", "row", "stand", "there", "key", "story"]) (k := 4) 13 F S B.g_story_outside (F.bindsN fun _ _ _ _ _ _ us hl => match us, hl with | [_, _, _], _ => rfl) B.bl rfl fun cdv A outer s H E h hp =>
   (ds_cons (ds_setLc 3 [("stand", 9)] h (di_seq h (de_ix h (de_var 2) de_int)) (blk_of (by kernel_rfl)) (bdName 9) (by decide) (fun _ _ _ _ _ h1 => ⟨(dg_name 9 h1), dts_nil, (de_tup (da_cons (de_var 9) (da_cons (de_fn h1 (ok_fits_at B) (da_cons (de_var 0) (da_cons (de_var 9) (da_cons (de_var 1) (da_cons de_int da_nil))))) da_nil)))⟩))
 (ds_cons ds_fail
 (ds_cons (ds_for h hp (di_range2 h de_int (de_add h (de_ix h (de_var 0) de_int) de_int)) (dg_name 5 h)
 (ds_cons (ds_setD 7 h (dy_new h))
 (ds_cons (ds_for h hp (di_seq h (de_var 4)) (dg_name 8 h)
 (ds_one (ds_for h hp (di_seq h (de_ix h (de_var 2) (de_var 5))) (dg_name 10 h)
 (ds_one (ds_if (dt_val (de_fn h (ok_is_step B) (da_cons (de_var 0) (da_cons (de_ix h (de_var 8) de_int) (da_cons (de_var 10) (da_cons (de_sub (de_var 5) de_int) da_nil))))))
 (ds_cons (ds_set 11 h (de_tup (da_cons (de_var 10) (da_cons (de_and (de_ix h (de_var 8) de_int) (de_one (de_fn h (ok_fits_at B) (da_cons (de_var 0) (da_cons (de_var 10) (da_cons (de_var 1) (da_cons (de_var 5) da_nil))))))) da_nil))))
 (ds_cons (ds_set 12 h (de_add h (de_ix h (de_var 4) (de_var 8)) (de_own (do_lst (da_cons (de_var 10) da_nil)))))
 (ds_one (ds_if (dw_or (dt_ninO 7 h (de_var 11)) (dw_or1 (dt_lt h (de_var 12) (de_ixD 7 h (de_var 11))))).pt
 (ds_one (ds_ixset 7 h (de_var 11) (de_var 12)))
 ds_nil))))
 ds_nil)))))
 (ds_one (ds_frz 7 (ds_set 4 h (de_var 7)))))))
 (ds_cons (ds_setLc 6 [("row", 8)] h (di_seq h (de_var 4)) (blk_of (by kernel_rfl)) (bdName 8) (by decide) (fun _ _ _ _ _ h2 => ⟨(dg_name 8 h2), (dts_one (dt_not (dt_tru h2 (de_ix h2 (de_var 8) de_int)))), (de_ix h2 (de_var 4) (de_var 8))⟩))
 (ds_one (ds_frz 6 (ds_ret (de_if (dt_ne h (de_var 6) (de_own (do_lst da_nil))) (de_minA h (de_var 6)) de_non))))))))
theorem ok_parting {c : Cfg} {mg : Str → Option Value} {base : Heap} (B : Hd c mg) : FnK c mg base "parting" ["house", "many", "book", "other", "liars"] 4 "liars" 7 WP.F_parting_v2 := by
  obtain ⟨fd, F⟩ := B.sy.d.def_ 46 (d := d_parting) rfl
  have S : FnScope ["house", "many", "book", "other", "liars", "found", "first", "second"] ["house", "many", "book", "other", "liars"] (defScope (top 68)) := ⟨rfl, rfl, rfl, by decide +kernel, rfl, by decide +kernel, by decide +kernel⟩
  exact FnK.of (N := ["house", "many", "book", "other", "liars", "found", "first", "second"]) (k := 6) 8 4 F S B.g_parting (F.binds0 4 (fun z => nomatch z) rfl fun _ _ _ _ _ _ us ks hl hk => match us, hl, ks, hk with | [_, _, _, _], _, [_], _ => ⟨_, _, _, _, _, _, rfl, rfl, rfl⟩) (FunD.kall F 4 "liars" fun _ _ _ _ _ _ us ws hl hk => match us, hl, ws, hk with | [_, _, _, _], _, [_], _ => rfl) B.kw_parting B.bl rfl fun cdv A outer s H E h hp =>
   (ds_cons (ds_expr (de_fn h (ok_look_case B) (da_cons (de_var 0) (da_cons (de_var 1) (da_cons (de_var 2) (da_cons (de_var 4) da_nil))))))
 (ds_cons (ds_expr (de_fn h (ok_look_book B) (da_cons (de_var 0) (da_cons (de_var 1) (da_cons (de_var 3) da_nil)))))
 (ds_cons (ds_par 6 7 h (de_fn h (ok_claims_of B) (da_cons (de_var 2) (da_cons (de_var 4) da_nil))) (de_fn h (ok_claims_of B) (da_cons (de_var 3) (da_cons (de_var 4) da_nil))))
 (ds_cons (ds_set 5 h (de_fn h (ok_story_outside B) (da_cons (de_var 0) (da_cons (de_var 7) (da_cons (de_fn h (ok_met_lots B) (da_cons (de_var 0) (da_cons (de_var 1) (da_cons (de_var 6) da_nil)))) da_nil)))))
 (ds_cons (ds_if (dt_isnot (de_var 5) de_non)
 (ds_one (ds_ret (de_tup (da_cons de_int (da_cons (de_var 5) da_nil)))))
 ds_nil)
 (ds_cons (ds_set 5 h (de_fn h (ok_story_outside B) (da_cons (de_var 0) (da_cons (de_var 6) (da_cons (de_fn h (ok_met_lots B) (da_cons (de_var 0) (da_cons (de_var 1) (da_cons (de_var 7) da_nil)))) da_nil)))))
 (ds_one (ds_ret (de_if (dt_is (de_var 5) de_non) de_non (de_tup (da_cons de_int (da_cons (de_var 5) da_nil))))))))))))
theorem ok_alike {c : Cfg} {mg : Str → Option Value} {base : Heap} (B : Hd c mg) : FnK c mg base "alike" ["house", "many", "book", "other", "liars"] 4 "liars" 8 WP.F_alike_v2 := by
  obtain ⟨fd, F⟩ := B.sy.d.def_ 47 (d := d_alike) rfl
  have S : FnScope ["house", "many", "book", "other", "liars"] ["house", "many", "book", "other", "liars"] (defScope (top 69)) := ⟨rfl, rfl, rfl, by decide +kernel, rfl, by decide +kernel, by decide +kernel⟩
  exact FnK.of (N := ["house", "many", "book", "other", "liars"]) (k := 7) 5 4 F S B.g_alike (F.binds0 4 (fun z => nomatch z) rfl fun _ _ _ _ _ _ us ks hl hk => match us, hl, ks, hk with | [_, _, _, _], _, [_], _ => ⟨_, _, _, _, _, _, rfl, rfl, rfl⟩) (FunD.kall F 4 "liars" fun _ _ _ _ _ _ us ws hl hk => match us, hl, ws, hk with | [_, _, _, _], _, [_], _ => rfl) B.kw_alike B.bl rfl fun cdv A outer s H E h hp =>
   (ds_one (ds_ret (de_is (de_fnK h (ok_parting B) (da_cons (de_var 0) (da_cons (de_var 1) (da_cons (de_var 2) (da_cons (de_var 3) da_nil)))) (de_var 4)) de_non)))
theorem ok__law_refusal {c : Cfg} {mg : Str → Option Value} {base : Heap} (B : Hd c mg) : Fn c mg base "_law_refusal" ["_law_caught"] 1 WP.F__law_refusal := by
  obtain ⟨fd, F⟩ := B.sy.d.def_ 50 (d := d__law_refusal) rfl
  have S : FnScope ["_law_caught", "_law_sorts"] ["_law_caught"] (defScope (top 73)) := ⟨rfl, rfl, rfl, by decide +kernel, rfl, by decide +kernel, by decide +kernel⟩
  exact Fn.of (N := ["_law_caught", "_law_sorts"]) (k := 0) 2 F S B.g__law_refusal (F.bindsN fun _ _ _ _ _ _ us hl => match us, hl with | [_], _ => rfl) B.bl rfl fun cdv A outer s H E h hp =>
   (ds_cons (ds_set 1 h (de_own (do_lst (da_cons (de_isx (t := 1) h B.xf (B.xc_BadHouse).g (de_var 0)) (da_cons (de_isx (t := 2) h B.xf (B.xc_BadFolk).g (de_var 0)) (da_cons (de_isx (t := 3) h B.xf (B.xc_BadBeat).g (de_var 0)) da_nil))))))
 (ds_cons (ds_set 1 h (de_add h (de_var 1) (de_own (do_lst (da_cons (de_isx (t := 4) h B.xf (B.xc_BadRoom).g (de_var 0)) (da_cons (de_isx (t := 5) h B.xf (B.xc_BadBook).g (de_var 0)) (da_cons (de_isx (t := 6) h B.xf (B.xc_BadPaper).g (de_var 0)) da_nil)))))))
 (ds_cons (ds_set 1 h (de_add h (de_var 1) (de_own (do_lst (da_cons (de_isx (t := 7) h B.xf (B.xc_BadText).g (de_var 0)) (da_cons (de_isx (t := 8) h B.xf (B.xc_NoneSuch).g (de_var 0)) da_nil))))))
 (ds_cons (ds_if (dw_or (dt_ne h (de_count h (de_var 1) de_bl) de_int) (dw_or (dt_not (dt_val (de_isx (t := 0) h B.xf (B.xc_WhereError).g (de_var 0)))) (dw_or1 (dt_not (dt_val (de_isv h B.xf (de_var 0))))))).pt
 (ds_one (ds_ret de_str))
 ds_nil)
 (ds_one (ds_ret (de_ix h (de_own (do_lst (da_cons de_str (da_cons de_str (da_cons de_str (da_cons de_str (da_cons de_str (da_cons de_str (da_cons de_str (da_cons de_str da_nil)))))))))) (de_index h (de_var 1) de_bl))))))))
theorem ok__law_does {c : Cfg} {mg : Str → Option Value} {base : Heap} (B : Hd c mg) : Fn c mg base "_law_does" ["_law_sort_of", "_law_hall", "_law_book_here", "_law_one", "_law_two", "_law_some"] 10 WP.F__law_does_v2 := by
  obtain ⟨fd, F⟩ := B.sy.d.def_ 51 (d := d__law_does) rfl
  have S : FnScope ["_law_sort_of", "_law_hall", "_law_book_here", "_law_one", "_law_two", "_law_some"] ["_law_sort_of", "_law_hall", "_law_book_here", "_law_one", "_law_two", "_law_some"] (defScope (top 74)) := ⟨rfl, rfl, rfl, by decide +kernel, rfl, by decide +kernel, by decide +kernel⟩
  exact Fn.of (N := ["_law_sort_of", "_law_hall", "_law_book_here", "_law_one", "_law_two", "_law_some"]) (k := 9) 6 F S B.g__law_does (F.bindsN fun _ _ _ _ _ _ us hl => match us, hl with | [_, _, _, _, _, _], _ => rfl) B.bl rfl fun cdv A outer s H E h hp =>
   (ds_cons (ds_if (dt_eq h (de_var 0) de_int)
 (ds_one (ds_ret (de_fnK h (ok_core B) (da_cons (de_var 1) (da_cons de_int (da_cons (de_var 2) (da_cons (de_var 3) da_nil)))) (de_var 5))))
 ds_nil)
 (ds_cons (ds_if (dt_eq h (de_var 0) de_int)
 (ds_one (ds_ret (de_fnK h (ok_least_paper B) (da_cons (de_var 1) (da_cons de_int (da_cons (de_var 2) (da_cons (de_var 3) da_nil)))) (de_var 5))))
 ds_nil)
 (ds_cons (ds_if (dt_eq h (de_var 0) de_int)
 (ds_one (ds_ret (de_fnK h (ok_needed B) (da_cons (de_var 1) (da_cons de_int (da_cons (de_var 2) (da_cons (de_var 3) da_nil)))) (de_var 5))))
 ds_nil)
 (ds_cons (ds_if (dt_eq h (de_var 0) de_int)
 (ds_one (ds_ret (de_fnK h (ok_shows_least B) (da_cons (de_var 1) (da_cons de_int (da_cons (de_var 2) (da_cons (de_var 3) (da_cons (de_var 4) (da_cons (de_own (do_lst da_nil)) da_nil)))))) (de_var 5))))
 ds_nil)
 (ds_cons (ds_if (dt_eq h (de_var 0) de_int)
 (ds_one (ds_ret (de_fnK h (ok_answers B) (da_cons (de_var 1) (da_cons de_int (da_cons (de_var 2) (da_cons (de_var 4) da_nil)))) (de_var 5))))
 ds_nil)
 (ds_cons (ds_if (dt_eq h (de_var 0) de_int)
 (ds_one (ds_ret (de_fnK h (ok_settles B) (da_cons (de_var 1) (da_cons de_int (da_cons (de_var 2) (da_cons (de_var 4) (da_cons (de_var 3) da_nil))))) (de_var 5))))
 ds_nil)
 (ds_cons (ds_if (dt_eq h (de_var 0) de_int)
 (ds_one (ds_ret (de_fnK h (ok_settling B) (da_cons (de_var 1) (da_cons de_int (da_cons (de_var 2) (da_cons (de_var 3) da_nil)))) (de_var 5))))
 ds_nil)
 (ds_cons (ds_if (dt_eq h (de_var 0) de_int)
 (ds_one (ds_ret (de_fnK h (ok_open_still B) (da_cons (de_var 1) (da_cons de_int (da_cons (de_var 2) (da_cons (de_var 3) da_nil)))) (de_var 5))))
 ds_nil)
 (ds_one (ds_ret (de_if (dt_eq h (de_var 0) de_int) (de_fnK h (ok_parting B) (da_cons (de_var 1) (da_cons de_int (da_cons (de_var 2) (da_cons (de_var 3) da_nil)))) (de_var 5)) (de_fnK h (ok_alike B) (da_cons (de_var 1) (da_cons de_int (da_cons (de_var 2) (da_cons (de_var 3) da_nil)))) (de_var 5)))))))))))))
theorem ok__law_asked {c : Cfg} {mg : Str → Option Value} {base : Heap} (B : Hd c mg) : Fn c mg base "_law_asked" ["_law_sort_of", "_law_hall", "_law_book_here", "_law_one", "_law_two", "_law_some"] 11 WP.F__law_asked_v3 := by
  obtain ⟨fd, F⟩ := B.sy.d.def_ 52 (d := d__law_asked) rfl
  have S : FnScope ["_law_sort_of", "_law_hall", "_law_book_here", "_law_one", "_law_two", "_law_some", "_law_caught", "e"] ["_law_sort_of", "_law_hall", "_law_book_here", "_law_one", "_law_two", "_law_some"] (defScope (top 75)) := ⟨rfl, rfl, rfl, by decide +kernel, rfl, by decide +kernel, by decide +kernel⟩
  exact Fn.of (N := ["_law_sort_of", "_law_hall", "_law_book_here", "_law_one", "_law_two", "_law_some", "_law_caught", "e"]) (k := 10) 8 F S B.g__law_asked (F.bindsN fun _ _ _ _ _ _ us hl => match us, hl with | [_, _, _, _, _, _], _ => rfl) B.bl rfl fun cdv A outer s H E h hp =>
   (ds_cons (ds_set 6 h de_non)
 (ds_cons (ds_try 7 6 h B.xf.em (B.xc_WhereError).g fun _ _ _ h1 hp =>
 (ds_one (ds_expr (de_fn h1 (ok__law_does B) (da_cons (de_var 0) (da_cons (de_var 1) (da_cons (de_var 2) (da_cons (de_var 3) (da_cons (de_var 4) (da_cons (de_var 5) da_nil))))))))))
 (ds_one (ds_ret (de_if (dt_is (de_var 6) de_non) de_str (de_fn h (ok__law_refusal B) (da_cons (de_var 6) da_nil)))))))
theorem ok__law_paper {c : Cfg} {mg : Str → Option Value} {base : Heap} (B : Hd c mg) : Fn c mg base "_law_paper" ["_law_hall", "_law_wish_of", "_law_size", "_law_walks_of"] 9 WP.F__law_paper := by
  obtain ⟨fd, F⟩ := B.sy.d.def_ 53 (d := d__law_paper) rfl
  have S : FnScope ["_law_hall", "_law_wish_of", "_law_size", "_law_walks_of", "_law_told", "_law_caught", "e"] ["_law_hall", "_law_wish_of", "_law_size", "_law_walks_of"] (defScope (top 76)) := ⟨rfl, rfl, rfl, by decide +kernel, rfl, by decide +kernel, by decide +kernel⟩
  exact Fn.of (N := ["_law_hall", "_law_wish_of", "_law_size", "_law_walks_of", "_law_told", "_law_caught", "e"]) (k := 8) 7 F S B.g__law_paper (F.bindsN fun _ _ _ _ _ _ us hl => match us, hl with | [_, _, _, _], _ => rfl) B.bl rfl fun cdv A outer s H E h hp =>
   (ds_cons (ds_set 4 h de_non)
 (ds_cons (ds_set 5 h de_non)
 (ds_cons (ds_try 6 5 h B.xf.em (B.xc_WhereError).g fun _ _ _ h1 hp =>
 (ds_one (ds_set 4 h1 (de_fnD h1 (ok_shows_least B) (da_cons (de_var 0) (da_cons de_int (da_cons (de_own (do_lst (da_cons (de_tup (da_cons de_non (da_cons (de_tup (da_cons de_str (da_cons de_int (da_cons de_int (da_cons de_int da_nil))))) da_nil))) da_nil))) (da_cons (de_var 1) (da_cons (de_var 2) (da_cons (de_var 3) da_nil))))))))))
 (ds_one (ds_ret (de_if (dt_is (de_var 5) de_non) (de_var 4) (de_fn h (ok__law_refusal B) (da_cons (de_var 5) da_nil))))))))
theorem ok__law_papers {c : Cfg} {mg : Str → Option Value} {base : Heap} (B : Hd c mg) : Fn c mg base "_law_papers" ["_law_hall", "_law_wish_of"] 10 WP.F__law_papers := by
  obtain ⟨fd, F⟩ := B.sy.d.def_ 54 (d := d__law_papers) rfl
  have S : FnScope ["_law_hall", "_law_wish_of", "_law_step", "_law_told", "_law_size", "_law_bad"] ["_law_hall", "_law_wish_of"] (defScope (top 77)) := ⟨rfl, rfl, rfl, by decide +kernel, rfl, by decide +kernel, by decide +kernel⟩
  exact Fn.of (N := ["_law_hall", "_law_wish_of", "_law_step", "_law_told", "_law_size", "_law_bad"]) (k := 9) 6 F S B.g__law_papers (F.bindsN fun _ _ _ _ _ _ us hl => match us, hl with | [_, _], _ => rfl) B.bl rfl fun cdv A outer s H E h hp =>
   (ds_cons (ds_if (dt_ne h (de_own (do_lc [("_law_bad", 5)] h (di_seq h (de_own (do_lst (da_cons de_non (da_cons (de_sub de_int de_int) (da_cons de_int (da_cons de_bl (da_cons de_str da_nil)))))))) (blk_of (by kernel_rfl)) (bdName 5) (by decide) (fun _ _ _ _ _ h1 => ⟨(dg_name 5 h1), dts_nil, (de_fn h1 (ok__law_paper B) (da_cons (de_var 0) (da_cons (de_var 1) (da_cons (de_var 5) (da_cons (de_own (do_lst da_nil)) da_nil)))))⟩))) (de_mul (de_own (do_lst (da_cons de_str da_nil))) de_int))
 (ds_one (ds_ret de_bl))
 ds_nil)
 (ds_cons (ds_set 2 h (de_own (do_lst (da_cons (de_tup (da_cons de_int (da_cons de_int da_nil))) (da_cons (de_tup (da_cons de_int (da_cons de_int da_nil))) (da_cons (de_tup (da_cons de_int (da_cons de_int da_nil))) da_nil))))))
 (ds_cons (ds_if (dt_ne h (de_own (do_lc [("_law_bad", 5)] h (di_seq h (de_own (do_lst (da_cons de_non (da_cons de_int (da_cons (de_tup da_nil) (da_cons (de_own (do_lst (da_cons de_non da_nil))) (da_cons (de_own (do_lst (da_cons (de_own (do_lst da_nil)) da_nil))) (da_cons (de_own (do_lst (da_cons (de_sl h (de_var 2) dp_no (dp_in de_int)) da_nil))) (da_cons (de_own (do_lst (da_cons (de_mul (de_own (do_lst (da_cons (de_tup (da_cons de_int (da_cons de_int da_nil))) da_nil))) de_int) da_nil))) da_nil)))))))))) (blk_of (by kernel_rfl)) (bdName 5) (by decide) (fun _ _ _ _ _ h2 => ⟨(dg_name 5 h2), dts_nil, (de_fn h2 (ok__law_paper B) (da_cons (de_var 0) (da_cons (de_var 1) (da_cons de_int (da_cons (de_var 5) da_nil)))))⟩))) (de_mul (de_own (do_lst (da_cons de_str da_nil))) de_int))
 (ds_one (ds_ret de_bl))
 ds_nil)
 (ds_cons (ds_setLc 3 [("_law_size", 4)] h (di_seq h (de_own (do_lst (da_cons de_int (da_cons de_int (da_cons de_int (da_cons de_int da_nil))))))) (blk_of (by kernel_rfl)) (bdName 4) (by decide) (fun _ _ _ _ _ h3 => ⟨(dg_name 4 h3), dts_nil, (de_fn h3 (ok__law_paper B) (da_cons (de_var 0) (da_cons (de_var 1) (da_cons (de_var 4) (da_cons (de_own (do_lst (da_cons (de_var 2) da_nil))) da_nil)))))⟩))
 (ds_one (ds_frz 3 (ds_ret (de_and (de_eq h (de_var 3) (de_own (do_lst (da_cons de_bl (da_cons de_bl (da_cons de_bl (da_cons de_bl da_nil))))))) (de_and (de_is (de_fn h (ok__law_paper B) (da_cons (de_var 0) (da_cons (de_var 1) (da_cons de_int (da_cons (de_own (do_lst da_nil)) da_nil))))) de_bl) (de_one (de_is (de_fn h (ok__law_paper B) (da_cons (de_var 0) (da_cons (de_var 1) (da_cons de_int (da_cons (de_own (do_lst da_nil)) da_nil))))) de_bl)))))))))))
theorem ok_law {c : Cfg} {mg : Str → Option Value} (B : Hd c mg) (hf : ∀ ns : List Int, ns.length ≤ 63 → ∃ T', runL nLaw b_law ns = .ok (.bl true) T') : ∃ fd, (∀ (s : Shared) (v : Value), BindsTo s fd ⟨[v], []⟩ [("_law_script", v)]) ∧ ∀ base : Heap, FnOk c.P c.w c.K mg base CX0 12 (He.ga c.K "law") fd ["_law_script"] (spLaw c) := by
  obtain ⟨fd, F⟩ := B.sy.d.def_ 55 (d := d_law) rfl
  have S : FnScope ["_law_script", "_law_town_here", "_law_hall", "_law_wish_of", "_law_bad", "_law_long_book", "_law_known", "_law_k"] ["_law_script"] (defScope (top 78)) := ⟨rfl, rfl, rfl, by decide +kernel, rfl, by decide +kernel, by decide +kernel⟩
  have b := FunD.bindsA (ps := ["_law_script"]) F fun _ _ _ _ _ _ us hl => match us, hl with | [_], _ => rfl
  refine ⟨fd, fun s v => b s [v] rfl, fun base => law_fn (N := ["_law_script", "_law_town_here", "_law_hall", "_law_wish_of", "_law_bad", "_law_long_book", "_law_known", "_law_k"]) (k := 11) F S B.bl rfl (by decide) hf fun cdv A outer s H E h hp => ?_⟩
  exact pss_law h (ok__law_town B) (by decide)
   (ds_cons (ds_set 2 h (de_tup (da_cons de_int (da_cons (de_tup (da_cons (de_tup (da_cons de_int (da_cons de_int da_nil))) da_nil)) (da_cons de_int (da_cons (de_tup da_nil) (da_cons (de_tup da_nil) da_nil)))))))
 (ds_cons (ds_set 3 h (de_tup (da_cons de_str (da_cons de_int (da_cons de_int (da_cons de_int da_nil))))))
 (ds_cons (ds_for h hp (di_seq h (de_own (do_lst (da_cons de_non (da_cons de_int (da_cons (de_own (do_lst (da_cons de_non da_nil))) (da_cons (de_tup da_nil) da_nil))))))) (dg_name 4 h)
 (ds_one (ds_if (dt_ne h (de_own (do_lc [("_law_k", 7)] h (di_range1 h de_int) (blk_of (by kernel_rfl)) (bdName 7) (by decide) (fun _ _ _ _ _ h1 => ⟨(dg_name 7 h1), dts_nil, (de_fn h1 (ok__law_asked B) (da_cons (de_var 7) (da_cons (de_var 2) (da_cons (de_var 4) (da_cons de_non (da_cons de_non (da_cons de_non da_nil)))))))⟩))) (de_mul (de_own (do_lst (da_cons de_str da_nil))) de_int))
 (ds_one (ds_ret de_bl))
 ds_nil)))
 (ds_cons (ds_for h hp (di_seq h (de_own (do_lst (da_cons de_non (da_cons de_int (da_cons (de_own (do_lst (da_cons de_int da_nil))) (da_cons (de_tup (da_cons de_int da_nil)) (da_cons (de_tup (da_cons de_int (da_cons de_int da_nil))) da_nil)))))))) (dg_name 4 h)
 (ds_one (ds_if (dt_ne h (de_own (do_lc [("_law_k", 7)] h (di_range1 h de_int) (blk_of (by kernel_rfl)) (bdName 7) (by decide) (fun _ _ _ _ _ h2 => ⟨(dg_name 7 h2), dts_nil, (de_fn h2 (ok__law_asked B) (da_cons (de_var 7) (da_cons (de_var 2) (da_cons (de_own (do_lst da_nil)) (da_cons de_non (da_cons de_non (da_cons (de_var 4) da_nil)))))))⟩))) (de_mul (de_own (do_lst (da_cons de_str da_nil))) de_int))
 (ds_one (ds_ret de_bl))
 ds_nil)))
 (ds_cons (ds_for h hp (di_seq h (de_own (do_lst (da_cons de_non (da_cons de_int (da_cons (de_tup (da_cons de_str (da_cons de_int (da_cons de_int (da_cons de_int da_nil))))) (da_cons (de_own (do_lst (da_cons (de_var 3) da_nil))) (da_cons (de_tup (da_cons de_str (da_cons de_int (da_cons de_int (da_cons de_int da_nil))))) da_nil)))))))) (dg_name 4 h)
 (ds_one (ds_if (dt_ne h (de_own (do_lc [("_law_k", 7)] h (di_seq h (de_own (do_lst (da_cons de_int (da_cons de_int (da_cons de_int (da_cons de_int (da_cons de_int (da_cons de_int (da_cons de_int da_nil)))))))))) (blk_of (by kernel_rfl)) (bdName 7) (by decide) (fun _ _ _ _ _ h3 => ⟨(dg_name 7 h3), dts_nil, (de_fn h3 (ok__law_asked B) (da_cons (de_var 7) (da_cons (de_var 2) (da_cons (de_own (do_lst da_nil)) (da_cons (de_var 4) (da_cons (de_tup (da_cons de_str (da_cons de_int (da_cons de_int da_nil)))) (da_cons (de_tup da_nil) da_nil)))))))⟩))) (de_mul (de_own (do_lst (da_cons de_str da_nil))) de_int))
 (ds_one (ds_ret de_bl))
 ds_nil)))
 (ds_cons (ds_for h hp (di_seq h (de_own (do_lst (da_cons de_non (da_cons de_int (da_cons (de_tup (da_cons de_str da_nil)) (da_cons (de_tup (da_cons de_str (da_cons de_int da_nil))) (da_cons (de_tup (da_cons de_str (da_cons de_int (da_cons de_int da_nil)))) (da_cons (de_tup (da_cons de_str (da_cons de_int (da_cons de_int da_nil)))) (da_cons (de_tup (da_cons de_str (da_cons de_int (da_cons de_int da_nil)))) (da_cons (de_tup (da_cons de_str (da_cons de_int (da_cons de_int (da_cons de_int da_nil))))) (da_cons (de_tup (da_cons de_str (da_cons de_int (da_cons de_int (da_cons de_int da_nil))))) (da_cons (de_tup (da_cons de_str (da_cons de_int (da_cons de_int (da_cons de_int da_nil))))) (da_cons (de_tup (da_cons de_str (da_cons de_int (da_cons de_int da_nil)))) (da_cons (de_tup (da_cons de_str (da_cons de_int (da_cons de_int (da_cons de_int da_nil))))) (da_cons (de_tup (da_cons de_str (da_cons de_int (da_cons de_int (da_cons de_int da_nil))))) da_nil)))))))))))))))) (dg_name 4 h)
 (ds_one (ds_if (dt_ne h (de_own (do_lc [("_law_k", 7)] h (di_seq h (de_own (do_lst (da_cons de_int (da_cons de_int da_nil))))) (blk_of (by kernel_rfl)) (bdName 7) (by decide) (fun _ _ _ _ _ h4 => ⟨(dg_name 7 h4), dts_nil, (de_fn h4 (ok__law_asked B) (da_cons (de_var 7) (da_cons (de_var 2) (da_cons (de_own (do_lst da_nil)) (da_cons (de_var 3) (da_cons (de_var 4) (da_cons (de_tup da_nil) da_nil)))))))⟩))) (de_mul (de_own (do_lst (da_cons de_str da_nil))) de_int))
 (ds_one (ds_ret de_bl))
 ds_nil)))
 (ds_cons (ds_for h hp (di_seq h (de_own (do_lst (da_cons de_non (da_cons de_int (da_cons (de_own (do_lst (da_cons de_non da_nil))) (da_cons (de_tup da_nil) da_nil))))))) (dg_name 4 h)
 (ds_one (ds_if (dt_ne h (de_own (do_lc [("_law_k", 7)] h (di_seq h (de_own (do_lst (da_cons de_int (da_cons de_int da_nil))))) (blk_of (by kernel_rfl)) (bdName 7) (by decide) (fun _ _ _ _ _ h5 => ⟨(dg_name 7 h5), dts_nil, (de_fn h5 (ok__law_asked B) (da_cons (de_var 7) (da_cons (de_var 2) (da_cons (de_own (do_lst da_nil)) (da_cons (de_var 4) (da_cons de_int (da_cons (de_tup da_nil) da_nil)))))))⟩))) (de_mul (de_own (do_lst (da_cons de_str da_nil))) de_int))
 (ds_one (ds_ret de_bl))
 ds_nil)))
 (ds_cons (ds_set 5 h (de_mul (de_own (do_lst (da_cons (de_tup (da_cons de_int (da_cons (de_tup (da_cons de_str (da_cons de_int (da_cons de_int (da_cons de_non da_nil))))) da_nil))) da_nil))) de_int))
 (ds_cons (ds_if (dw_or (dt_ne h (de_own (do_lc [("_law_k", 7)] h (di_range1 h de_int) (blk_of (by kernel_rfl)) (bdName 7) (by decide) (fun _ _ _ _ _ h6 => ⟨(dg_name 7 h6), dts_nil, (de_fn h6 (ok__law_asked B) (da_cons (de_var 7) (da_cons (de_var 2) (da_cons (de_add h6 (de_var 5) (de_sl h6 (de_var 5) dp_no (dp_in de_int))) (da_cons (de_var 3) (da_cons de_int (da_cons (de_tup da_nil) da_nil)))))))⟩))) (de_mul (de_own (do_lst (da_cons de_str da_nil))) de_int)) (dw_or1 (dt_ne h (de_fn h (ok__law_asked B) (da_cons de_int (da_cons (de_var 2) (da_cons (de_var 5) (da_cons (de_var 3) (da_cons de_int (da_cons (de_tup da_nil) da_nil))))))) de_str))).pt
 (ds_one (ds_ret de_bl))
 ds_nil)
 (ds_cons (ds_if (dt_ne h (de_own (do_lc [("_law_k", 7)] h (di_range1 h de_int) (blk_of (by kernel_rfl)) (bdName 7) (by decide) (fun _ _ _ _ _ h7 => ⟨(dg_name 7 h7), dts_nil, (de_fn h7 (ok__law_asked B) (da_cons (de_var 7) (da_cons (de_var 2) (da_cons (de_own (do_lst da_nil)) (da_cons (de_var 3) (da_cons de_int (da_cons (de_tup da_nil) da_nil)))))))⟩))) (de_own (do_lst (da_cons de_str (da_cons de_str (da_cons de_str (da_cons de_str da_nil)))))))
 (ds_one (ds_ret de_bl))
 ds_nil)
 (ds_cons (ds_set 6 h (de_own (do_lst (da_cons (de_tup (da_cons de_non (da_cons (de_tup (da_cons de_str (da_cons de_int (da_cons de_int (da_cons de_int da_nil))))) da_nil))) (da_cons (de_tup (da_cons de_non (da_cons (de_tup (da_cons de_str (da_cons de_int (da_cons de_int (da_cons de_int da_nil))))) da_nil))) da_nil)))))
 (ds_cons (ds_if (dt_ne h (de_own (do_lc [("_law_k", 7)] h (di_range1 h de_int) (blk_of (by kernel_rfl)) (bdName 7) (by decide) (fun _ _ _ _ _ h8 => ⟨(dg_name 7 h8), dts_nil, (de_fn h8 (ok__law_asked B) (da_cons (de_var 7) (da_cons (de_var 2) (da_cons (de_var 6) (da_cons (de_var 3) (da_cons (de_tup (da_cons de_str (da_cons de_int (da_cons (de_fn h8 (ok__law_draw B) (da_cons (de_var 1) (da_cons de_int da_nil))) da_nil)))) (da_cons (de_tup da_nil) da_nil)))))))⟩))) (de_add h (de_mul (de_own (do_lst (da_cons de_str da_nil))) de_int) (de_own (do_lst (da_cons de_str (da_cons de_str (da_cons de_str (da_cons de_str (da_cons de_str da_nil)))))))))
 (ds_one (ds_ret de_bl))
 ds_nil)
 (ds_one (ds_ret (de_and (de_fn h (ok__law_papers B) (da_cons (de_var 2) (da_cons (de_var 3) da_nil))) (de_and (de_eq h (de_fnD h (ok_core B) (da_cons (de_var 2) (da_cons de_int (da_cons (de_var 6) (da_cons (de_var 3) da_nil))))) (de_tup (da_cons de_int da_nil))) (de_one (de_eq h (de_fnD h (ok_answers B) (da_cons (de_var 2) (da_cons de_int (da_cons (de_own (do_lst da_nil)) (da_cons (de_tup (da_cons de_str (da_cons de_int (da_cons de_int (da_cons de_int da_nil))))) da_nil))))) (de_own (do_lst (da_cons de_bl (da_cons de_bl da_nil))))))))))))))))))))))
end Wk19
set_option maxHeartbeats 4000000
namespace Wk19
open PySem PySem.Spec L2 WW
theorem ok_step {s t : Sx} {ρ : En} {P : D → Prop} (ρ' : En) (h : ∀ T, s ρ T = .ok (.nx ρ') T) (k : Ok (t ρ' >>= endM) P) : Ok (sSeq s t ρ >>= endM) P := by
  have e : sSeq s t ρ = t ρ' := by
    funext T
    show M.bnd (s ρ) (onNx t) T = _
    unfold M.bnd
    rw [h]
    rfl
  rw [e]
  exact k
theorem ok_ret {s : Sx} {ρ : En} {P : D → Prop} {d : D} (h : ∀ T, s ρ T = .ok (.rt d) T) (p : P d) : Ok (s ρ >>= endM) P := by
  have e : s ρ = M.ret (.rt d) := by
    funext T
    rw [h]; rfl
  rw [e]
  exact Ok.ret p
/-- the hall, the wish, what was bad last, the long book, what is known -/
def hall : D := .tup [.int 2, .tup [.tup [.int 0, .int 1]], .int 2, .tup [], .tup []]
def wish : D := .tup [.str "at", .int 0, .int 0, .int 1]
def longB : D := .lst (List.replicate 12 (.tup [.int 0, .tup [.str "alone", .int 0, .int 0, .non]]))
def known : D := .lst [.tup [.non, .tup [.str "at", .int 0, .int 0, .int 0]], .tup [.non, .tup [.str "at", .int 0, .int 0, .int 1]]]
def st (w b l k : Option SV) : En := [none, some (.d (.cell 0)), some (.d hall), w, b, l, k, none]
def wi : Option SV := some (.d wish)
def expd : Nat → D
  | 3 => .str "paper"
  | 5 => .str "none"
  | 6 => .str "none"
  | _ => .str "told"
theorem asked_known : ∀ k ∈ List.range 8, ∀ r : Int, 0 ≤ r → r < 3 → WP.F__law_asked_v3 [.int (k : Nat), hall, known, wish, .tup [.str "where", .int 0, .int r], .tup []] = M.ret (expd k) := by
  intro k hk r r0 r3
  have hr : r = 0 ∨ r = 1 ∨ r = 2 := by omega
  have lt := List.mem_range.mp hk
  have hk : k = 0 ∨ k = 1 ∨ k = 2 ∨ k = 3 ∨ k = 4 ∨ k = 5 ∨ k = 6 ∨ k = 7 := by omega
  rcases hk with rfl | rfl | rfl | rfl | rfl | rfl | rfl | rfl <;> rcases hr with rfl | rfl | rfl <;> (funext T; kernel_rfl)
theorem ok_if {t : Tx} {a s : Sx} {ρ : En} {P : D → Prop} (h : Ok (t ρ) fun z => z = false) (k : Ok (s ρ >>= endM) P) : Ok (sSeq (sIf t a sNil) s ρ >>= endM) P := by
  rw [ap_sSeq, ap_sIf]
  simp only [bind_assoc']
  refine Ok.bind h fun z hz => ?_
  subst hz
  exact k
def tq : Tx := (tVal (d2 neM (dOwn (oLc (iCall rng1M [(dC (.int 8))]) (bName 7) tAll (dCall WP.F__law_asked_v3 [(dVar 7), (dVar 2), (dVar 6), (dVar 3), (dTup [(dC (.str "where")), (dC (.int 0)), (dCall drawM [(dVar 1), (dC (.int 3))])]), (dTup [])]) [7])) (d2 addM (d2 mulM (dOwn (oLst [(dC (.str "told"))])) (dC (.int 3))) (dOwn (oLst [(dC (.str "paper")), (dC (.str "told")), (dC (.str "none")), (dC (.str "none")), (dC (.str "told"))])))))
theorem okEq {α : Type} {x : M α} {a : α} {P : α → Prop} (h : x = M.ret a) (p : P a) : Ok x P := by rw [h]; exact Ok.ret p
theorem all2_expd : ∀ {xs : List Nat} {ys : List D}, All2 (fun k d => d = expd k) xs ys → ys = xs.map expd
  | _, _, .nil => rfl
  | _, _, .take h t => by rw [h, all2_expd t]; rfl
theorem tq_ok (b l : Option SV) (hb : b = some (.d (.tup []))) (hl : l = some (.d longB)) : Ok (tq (st wi b l (some (.d known)))) fun z => z = false := by
  obtain ⟨P, hP⟩ : ∃ P : Bool → Prop, ∀ d, P d ↔ d = false := ⟨_, fun _ => Iff.rfl⟩
  refine Ok.mono (P := P) ?_ fun d hd => (hP d).mp hd
  unfold tq st wi
  simp
  rw [rng1_ret (by omega) (by omega)]
  simp only [ret_bind]
  refine Ok.bind (Ok.noX (Ok.lcA (fun k : Nat => D.int (k : Int)) (fun k d => d = expd k) _ fun k hk => ⟨_, rfl, by
    simp
    refine Ok.bind (Ok.draw (by omega) (by omega)) fun d ⟨r, e, r0, r3⟩ => ?_
    subst e
    rw [asked_known k hk r r0 r3]
    exact Ok.ret rfl⟩)) fun ys hys => ?_
  have ey := all2_expd hys
  subst ey
  exact okEq (a := false) (by funext T; kernel_rfl) ((hP _).mpr rfl)
theorem law_ok : Ok (b_law ((List.replicate nLaw none).set 1 (some (.d (.cell 0)))) >>= endM) fun d => d = .bl true := by
  unfold b_law
  refine ok_step (st none none none none) (fun T => by kernel_rfl) ?_
  refine ok_step (st wi none none none) (fun T => by kernel_rfl) ?_
  refine ok_step (st wi (some (.d (.tup []))) none none) (fun T => by kernel_rfl) ?_
  refine ok_step (st wi (some (.d (.tup [.int 1, .int 0]))) none none) (fun T => by kernel_rfl) ?_
  refine ok_step (st wi (some (.d (.tup [.str "saw", .int 0, .int 0, .int 0]))) none none) (fun T => by kernel_rfl) ?_
  refine ok_step (st wi (some (.d (.tup [.str "together", .int 0, .int 2, .int 0]))) none none) (fun T => by kernel_rfl) ?_
  refine ok_step (st wi (some (.d (.tup []))) none none) (fun T => by kernel_rfl) ?_
  refine ok_step (st wi (some (.d (.tup []))) (some (.d longB)) none) (fun T => by kernel_rfl) ?_
  refine ok_step (st wi (some (.d (.tup []))) (some (.d longB)) none) (fun T => by kernel_rfl) ?_
  refine ok_step (st wi (some (.d (.tup []))) (some (.d longB)) none) (fun T => by kernel_rfl) ?_
  refine ok_step (st wi (some (.d (.tup []))) (some (.d longB)) (some (.d known))) (fun T => by kernel_rfl) ?_
  refine ok_if (tq_ok _ _ rfl rfl) ?_
  exact ok_ret (d := .bl true) (fun T => by kernel_rfl) rfl
theorem law_true : ∀ ns : List Int, ns.length ≤ 63 → ∃ T', runL nLaw b_law ns = .ok (.bl true) T' := fun ns _ => by
  have v : Vt [.town (first ns) 0] := ⟨_, _, rfl, by unfold first; split <;> simp_all⟩
  obtain ⟨d, T', h1, _, h2⟩ := law_ok _ v
  subst h2
  exact ⟨T', h1⟩
end Wk19
set_option maxHeartbeats 0
namespace Wk19
open PySem PySem.Spec PyProof.Rows L2 WW
abbrev R : PySem.W.OpenRow := PySem.W.OpenLaw.row PySem.Challenge.rw_wherewas_k19_wishes_refused
abbrev hk : PySem.W.Hook := hookZ 4 fa ck fn
def ob (s : PySem.W.SharedT) : AlY := obsZG 4 fa ck fn (HandSHeadRun.getT s)
theorem ob_eq (s : PySem.W.SharedT) : ob s = hk.obs s.abs := obsZG_eq (HandSHeadRun.getT_eq s)
def nm0 : List PySem.Str := ["WhereError", "BadHouse", "BadFolk", "BadBeat", "BadRoom", "BadBook", "BadPaper", "BadText", "NoneSuch", "is_whole", "MOST_ROOMS", "MOST_LAST", "MOST_FOLK", "WORDS", "are_pairs", "is_house", "look_house", "look_folk", "open_doors", "beside", "stands", "is_stand", "is_claim", "holds", "MOST_BINDINGS", "is_binding", "book_fits", "look_book", "look_case", "claims_of"]
def nm1 : List PySem.Str := ["let_at", "led", "ahead_lots", "behind_lots", "met_lots", "is_step", "first_of", "walks", "broken_by", "MOST_CORE_BOOK", "look_wish", "lots_of", "bars", "core_of", "core", "meets", "least_paper", "shows_least", "needed", "is_question", "look_question", "answer_in", "answers", "stands_with", "settled", "settles", "questions", "settling", "open_still", "story_outside"]
def nm2 : List PySem.Str := ["fits_at", "parting", "alike", "_law_town", "_law_draw", "_law_refusal", "_law_does", "_law_asked", "_law_paper", "_law_papers"]
def nms : List PySem.Str := nm0 ++ nm1 ++ nm2
theorem run (w : World) : HandSHeadRun.RunEq R (PySem.W.view R.prog [78]) hk ob 12000 nms w := by
  intro os
  kernel_rfl
end Wk19
open PySem PySem.W PySem.Calls PyProof.Rows
theorem PySem.Challenge.cw_wherewas_k19_wishes_refused_holds : PySem.Challenge.rw_wherewas_k19_wishes_refused.Holds := by
  w_on; o_law
  refine HandSHeadRun.head_any (r := OpenLaw.row PySem.Challenge.rw_wherewas_k19_wishes_refused) (q := view (OpenLaw.row PySem.Challenge.rw_wherewas_k19_wishes_refused).prog [78]) (H := Wk19.hk) (ob := Wk19.ob) (M := 12000) (loose := Wk19.nms) (d := HandSHeadRun.topDef (OpenLaw.row PySem.Challenge.rw_wherewas_k19_wishes_refused).prog 78) (kwd := []) Wk19.ob_eq
    (by kernel_rfl) (fun s => by kernel_rfl) Wk19.run (by kernel_rfl) (by kernel_rfl) (by kernel_rfl) (by rfl) (by first | assumption | decide +kernel) (by decide +kernel) ⟨rfl, rfl, rfl, rfl, rfl, by decide +kernel⟩ ?hw ?hc
  case hw => w_witness2
  case hc =>
    refine L2.walk_ofE (l := PySem.Challenge.rw_wherewas_k19_wishes_refused) (n := 63) (k := 12) (x := "_law_script") (CX := L2.CX0) rfl (by decide) (by kernel_rfl) ⟨rfl, by decide, by decide⟩ ?F (fun _ _ _ _ z => z)
    intro w mg fa h Y G hmg0
    obtain ⟨K, KX, q⟩ := Y
    have hmg : mg ("law" : PySem.Str) = some (.ref fa) := by
      have e : (HandSHeadRun.topDef (OpenLaw.row PySem.Challenge.rw_wherewas_k19_wishes_refused).prog 78).name = ("law" : PySem.Str) := by kernel_rfl
      rw [← e]
      exact hmg0
    have B : Wk19.Hd ⟨(PySem.Challenge.rw_wherewas_k19_wishes_refused).prog, w, K, Wk19.caOf K, none⟩ mg := ⟨q, ⟨h, KX, G⟩, rfl⟩
    have e := hmg.symm.trans B.g_law
    cases e
    obtain ⟨fd, hb, hF⟩ := Wk19.ok_law B Wk19.law_true
    exact ⟨K, fd, WW.spLaw ⟨(PySem.Challenge.rw_wherewas_k19_wishes_refused).prog, w, K, Wk19.caOf K, none⟩, KX, hb, fun H a ns hl _ hS => WW.spLaw_plain rfl hS hl fun _ => rfl, fun b _ _ => hF b⟩
